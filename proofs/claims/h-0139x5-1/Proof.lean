import JvmDerived
import JvmDerived.Pilot.@@N@@Statement
import JvmDerived.Pilot.@@N@@Code
set_option linter.unusedVariables false
set_option linter.unusedSimpArgs false
namespace Jvm.AM
open Sem ClassFile Op Lib Jvm.Stand Jvm.Free Jvm.LawKit Jvm.RoadKit
/-! ## 1. The abstract objects: one object of the class, its scalars and its arrays by number -/
abbrev S : Type := (Nat → Int32) × (Nat → Int64) × (Nat → List Int32) × (Nat → List Int64)
def aupd {A : Type} (g : Nat → A) (f : Nat) (v : A) : Nat → A := fun x => if x = f then v else g x
def gI (s : S) (f : Nat) : Int32 := s.1 f
def gL (s : S) (f : Nat) : Int64 := s.2.1 f
def gA (s : S) (f : Nat) : List Int32 := s.2.2.1 f
def gB (s : S) (f : Nat) : List Int64 := s.2.2.2 f
def sI (s : S) (f : Nat) (v : Int32) : S := (aupd s.1 f v, s.2)
def sL (s : S) (f : Nat) (v : Int64) : S := (s.1, aupd s.2.1 f v, s.2.2)
def sA (s : S) (f : Nat) (v : List Int32) : S := (s.1, s.2.1, aupd s.2.2.1 f v, s.2.2.2)
def sB (s : S) (f : Nat) (v : List Int64) : S := (s.1, s.2.1, s.2.2.1, aupd s.2.2.2 f v)
def s0 : S := (fun _ => 0, fun _ => 0, fun _ => [], fun _ => [])
theorem gI_s0 (f : Nat) : gI s0 f = 0 := by simp only [gI, s0]
theorem gL_s0 (f : Nat) : gL s0 f = 0 := by simp only [gL, s0]
theorem gA_s0 (f : Nat) : gA s0 f = [] := by simp only [gA, s0]
theorem gB_s0 (f : Nat) : gB s0 f = [] := by simp only [gB, s0]
theorem gI_sI (s : S) (f g : Nat) (v : Int32) : gI (sI s f v) g = if g = f then v else gI s g := by simp only [gI, gL, gA, gB, sI, sL, sA, sB, aupd]
theorem gI_sL (s : S) (f g : Nat) (v : Int64) : gI (sL s f v) g = gI s g := by simp only [gI, gL, gA, gB, sI, sL, sA, sB, aupd]
theorem gI_sA (s : S) (f g : Nat) (v : List Int32) : gI (sA s f v) g = gI s g := by simp only [gI, gL, gA, gB, sI, sL, sA, sB, aupd]
theorem gI_sB (s : S) (f g : Nat) (v : List Int64) : gI (sB s f v) g = gI s g := by simp only [gI, gL, gA, gB, sI, sL, sA, sB, aupd]
theorem gL_sI (s : S) (f g : Nat) (v : Int32) : gL (sI s f v) g = gL s g := by simp only [gI, gL, gA, gB, sI, sL, sA, sB, aupd]
theorem gL_sL (s : S) (f g : Nat) (v : Int64) : gL (sL s f v) g = if g = f then v else gL s g := by simp only [gI, gL, gA, gB, sI, sL, sA, sB, aupd]
theorem gL_sA (s : S) (f g : Nat) (v : List Int32) : gL (sA s f v) g = gL s g := by simp only [gI, gL, gA, gB, sI, sL, sA, sB, aupd]
theorem gL_sB (s : S) (f g : Nat) (v : List Int64) : gL (sB s f v) g = gL s g := by simp only [gI, gL, gA, gB, sI, sL, sA, sB, aupd]
theorem gA_sI (s : S) (f g : Nat) (v : Int32) : gA (sI s f v) g = gA s g := by simp only [gI, gL, gA, gB, sI, sL, sA, sB, aupd]
theorem gA_sL (s : S) (f g : Nat) (v : Int64) : gA (sL s f v) g = gA s g := by simp only [gI, gL, gA, gB, sI, sL, sA, sB, aupd]
theorem gA_sA (s : S) (f g : Nat) (v : List Int32) : gA (sA s f v) g = if g = f then v else gA s g := by simp only [gI, gL, gA, gB, sI, sL, sA, sB, aupd]
theorem gA_sB (s : S) (f g : Nat) (v : List Int64) : gA (sB s f v) g = gA s g := by simp only [gI, gL, gA, gB, sI, sL, sA, sB, aupd]
theorem gB_sI (s : S) (f g : Nat) (v : Int32) : gB (sI s f v) g = gB s g := by simp only [gI, gL, gA, gB, sI, sL, sA, sB, aupd]
theorem gB_sL (s : S) (f g : Nat) (v : Int64) : gB (sL s f v) g = gB s g := by simp only [gI, gL, gA, gB, sI, sL, sA, sB, aupd]
theorem gB_sA (s : S) (f g : Nat) (v : List Int32) : gB (sA s f v) g = gB s g := by simp only [gI, gL, gA, gB, sI, sL, sA, sB, aupd]
theorem gB_sB (s : S) (f g : Nat) (v : List Int64) : gB (sB s f v) g = if g = f then v else gB s g := by simp only [gI, gL, gA, gB, sI, sL, sA, sB, aupd]
def rep {A : Type} (n : Nat) (x : A) : List A := List.replicate n x
theorem rep_length {A : Type} (n : Nat) (x : A) : (rep n x).length = n := by simp only [rep, List.length_replicate]
theorem rep_get {A : Type} (n : Nat) (x : A) (k : Nat) : (rep n x)[k]? = if k < n then some x else none := by simp only [rep, List.getElem?_replicate]
theorem rep_set {A : Type} (n : Nat) (x : A) (k : Nat) : (rep n x).set k x = rep n x := by simp only [rep, List.set_replicate_self]
/-- reading and writing a component -/
def ix {A : Type} (l : List A) (j : Int32) : Option A := if j < 0 then none else l[j.toNatClampNeg]?
def st {A : Type} (l : List A) (j : Int32) (x : A) : Option (List A) := if j < 0 then none else if j.toNatClampNeg < l.length then some (l.set j.toNatClampNeg x) else none
/-- the world of a run: the script array, if there is one; the objects made so far, each with the number of arrays that it has been given -/
abbrev W : Type := Option (List Int32) × List (Nat × S)
/-- the class: name, slots, scalar fields (name, descriptor, type), array fields in the order of their making (name, descriptor, component type, most slots) -/
abbrev CI : Type := String × Nat × List (String × String × FieldType) × List (String × String × FieldType × Nat)
def cN (c : CI) : String := c.1
def cF (c : CI) : Nat := c.2.1
def cS (c : CI) : List (String × String × FieldType) := c.2.2.1
def cA (c : CI) : List (String × String × FieldType × Nat) := c.2.2.2
def cK (c : CI) : Nat := (cA c).length
/-- the program: the sheet's words, the class -/
abbrev PI : Type := List Jvm.Cond × CI
/-- a method: name, bytes, variables, return type, room, most objects, whether it makes cells, cells and slots at its start -/
abbrev Meth : Type := MethodName × ByteArray × Nat × Option FieldType × Room × Nat × Bool × Nat × Nat
def mY (M : Meth) : MethodName := M.1
def mB (M : Meth) : ByteArray := M.2.1
def mL (M : Meth) : Nat := M.2.2.1
def mT (M : Meth) : Option FieldType := M.2.2.2.1
def mR (M : Meth) : Room := M.2.2.2.2.1
def mN (M : Meth) : Nat := M.2.2.2.2.2.1
def mTop (M : Meth) : Bool := M.2.2.2.2.2.2.1
def mUC (M : Meth) : Nat := M.2.2.2.2.2.2.2.1
def mUS (M : Meth) : Nat := M.2.2.2.2.2.2.2.2
/-! ## 2. Abstract references: 0 the script; j + 1 the cell at b + j -/
def con (α b : Nat) : Value → Value
  | .ref 0 => .ref α
  | .ref (j + 1) => .ref (b + j)
  | v => v
def cs (α b : Nat) : Slot → Slot
  | .val v => .val (con α b v)
  | .unset => .unset
  | .second => .second
def cL (α b : Nat) (L : List Slot) : Array Slot := (L.map (cs α b)).toArray
def cV (α b : Nat) (l : List Value) : List Value := l.map (con α b)
theorem con_cat (α b : Nat) (v : Value) : (con α b v).category = v.category := by
  cases v <;> try rfl
  rename_i a; cases a <;> rfl
theorem con_ref (α b : Nat) (v : Value) : (con α b v).isRef = v.isRef := by
  cases v <;> try rfl
  rename_i a; cases a <;> rfl
theorem cL_get {α b : Nat} {L : List Slot} {k : Nat} {x : Slot} (h : L[k]? = some x) : (cL α b L)[k]? = some (cs α b x) := by
  simp [cL, List.getElem?_toArray, List.getElem?_map, h]
theorem cL_size (α b : Nat) (L : List Slot) : (cL α b L).size = L.length := by simp [cL]
theorem cV_sum (α b : Nat) (l : List Value) : ((cV α b l).map fun v => v.category).sum = (l.map fun v => v.category).sum := by
  simp [cV, List.map_map, Function.comp_def, con_cat]
theorem setAt_map {α b : Nat} {l l' : Array Slot} {i : Nat} {x : Slot} (h : setAt l i x = some l') : setAt (l.map (cs α b)) i (cs α b x) = some (l'.map (cs α b)) := by
  unfold setAt at h ⊢
  split at h
  · rename_i q
    cases h
    rw [if_pos (by simpa using q)]
    simp [Array.map_setIfInBounds]
  · cases h
theorem storeSelf_map {α b : Nat} {l l' : Array Slot} {i : Nat} {v : Value} (h : storeSelf l i v = some l') : storeSelf (l.map (cs α b)) i (con α b v) = some (l'.map (cs α b)) := by
  simp only [storeSelf, Option.bind_eq_bind, Option.bind_eq_some_iff] at h ⊢
  obtain ⟨l1, h1, h2⟩ := h
  refine ⟨l1.map (cs α b), setAt_map (x := .val v) h1, ?_⟩
  rw [con_cat]
  split at h2
  · rename_i q
    rw [if_pos q]
    obtain ⟨x, h3, h4⟩ := Option.bind_eq_some_iff.mp h2
    refine Option.bind_eq_some_iff.mpr ⟨cs α b x, by simp [h3], ?_⟩
    cases x with
    | unset => exact setAt_map (x := .second) h4
    | second => exact setAt_map (x := .second) h4
    | val old =>
      simp only [cs, con_cat] at h4 ⊢
      split at h4
      · rename_i q2
        rw [if_pos q2]
        obtain ⟨y, h5, h6⟩ := Option.bind_eq_some_iff.mp h4
        exact Option.bind_eq_some_iff.mpr ⟨_, setAt_map (x := .unset) h5, setAt_map (x := .second) h6⟩
      · rename_i q2
        rw [if_neg q2]
        exact setAt_map (x := .second) h4
  · rename_i q
    rw [if_neg q]
    cases h2; rfl
theorem store_map {α b : Nat} {l l' : Array Slot} {i : Nat} {v : Value} (h : storeLocals l i v = some l') : storeLocals (l.map (cs α b)) i (con α b v) = some (l'.map (cs α b)) := by
  simp only [storeLocals, Option.bind_eq_bind, Option.bind_eq_some_iff] at h ⊢
  obtain ⟨x, h1, h2⟩ := h
  refine ⟨cs α b x, by simp [h1], ?_⟩
  cases x with
  | unset => exact storeSelf_map h2
  | second =>
    obtain ⟨y, h3, h4⟩ := Option.bind_eq_some_iff.mp h2
    exact Option.bind_eq_some_iff.mpr ⟨_, setAt_map (x := .unset) h3, storeSelf_map h4⟩
  | val old =>
    simp only [cs, con_cat] at h2 ⊢
    split at h2
    · rename_i q
      rw [if_pos q]
      obtain ⟨y, h3, h4⟩ := Option.bind_eq_some_iff.mp h2
      exact Option.bind_eq_some_iff.mpr ⟨_, setAt_map (x := .unset) h3, storeSelf_map h4⟩
    · rename_i q
      rw [if_neg q]
      exact storeSelf_map h2
theorem storeC {α b : Nat} {L L' : List Slot} {i : Nat} {v : Value} (h : storeLocals L.toArray i v = some L'.toArray) : storeLocals (cL α b L) i (con α b v) = some (cL α b L') := by
  have := store_map (α := α) (b := b) h
  simpa [cL] using this
theorem setAt_size {l l' : Array Slot} {i : Nat} {x : Slot} (h : setAt l i x = some l') : l'.size = l.size := by
  unfold setAt at h; split at h <;> cases h; simp
theorem storeSelf_size {l l' : Array Slot} {i : Nat} {v : Value} (h : storeSelf l i v = some l') : l'.size = l.size := by
  simp only [storeSelf, Option.bind_eq_bind, Option.bind_eq_some_iff] at h
  obtain ⟨l1, h1, h2⟩ := h
  have e1 := setAt_size h1
  split at h2
  · obtain ⟨x, h3, h4⟩ := Option.bind_eq_some_iff.mp h2
    cases x with
    | unset => exact (setAt_size h4).trans e1
    | second => exact (setAt_size h4).trans e1
    | val old =>
      dsimp only at h4
      split at h4
      · obtain ⟨y, h5, h6⟩ := Option.bind_eq_some_iff.mp h4
        exact (setAt_size h6).trans ((setAt_size h5).trans e1)
      · exact (setAt_size h4).trans e1
  · cases h2; exact e1
theorem store_size {l l' : Array Slot} {i : Nat} {v : Value} (h : storeLocals l i v = some l') : l'.size = l.size := by
  simp only [storeLocals, Option.bind_eq_bind, Option.bind_eq_some_iff] at h
  obtain ⟨x, h1, h2⟩ := h
  cases x with
  | unset => exact storeSelf_size h2
  | second =>
    obtain ⟨y, h3, h4⟩ := Option.bind_eq_some_iff.mp h2
    exact (storeSelf_size h4).trans (setAt_size h3)
  | val old =>
    dsimp only at h2
    split at h2
    · obtain ⟨y, h3, h4⟩ := Option.bind_eq_some_iff.mp h2
      exact (storeSelf_size h4).trans (setAt_size h3)
    · exact storeSelf_size h2
/-- a variable that may be written over by a value of one word -/
def k1 (o : Slot) : Prop := o = .unset ∨ ∃ w, o = .val w ∧ w.category = 1
def k2 (o o2 : Slot) : Prop := (o = .unset ∧ o2 = .unset) ∨ ∃ u, o = .val (.long u) ∧ o2 = .second
theorem setAt_l {L : List Slot} {k : Nat} {x : Slot} (h : k < L.length) : setAt L.toArray k x = some (L.set k x).toArray := by simp [setAt, h]
theorem get_l {L : List Slot} {k : Nat} {o : Slot} (h : L[k]? = some o) : L.toArray[k]? = some o := by rw [List.getElem?_toArray]; exact h
theorem store_u {L : List Slot} {k : Nat} {v : Value} (h : L[k]? = some .unset) : storeLocals L.toArray k v = storeSelf L.toArray k v := by
  simp only [storeLocals, Option.bind_eq_bind, get_l h, Option.bind_some]
theorem store_1 {L : List Slot} {k : Nat} {v w : Value} (h : L[k]? = some (.val w)) (hw : w.category = 1) : storeLocals L.toArray k v = storeSelf L.toArray k v := by
  simp only [storeLocals, Option.bind_eq_bind, get_l h, Option.bind_some]
  rw [if_neg (by rw [hw]; decide)]
theorem store_k {L : List Slot} {k : Nat} {v : Value} {o : Slot} (h : L[k]? = some o) (ho : k1 o) : storeLocals L.toArray k v = storeSelf L.toArray k v := by
  rcases ho with rfl | ⟨w, rfl, hw⟩
  · exact store_u h
  · exact store_1 h hw
theorem store_2 {L : List Slot} {k : Nat} {v w : Value} (h : L[k]? = some (.val w)) (hw : w.category = 2) (l2 : k + 1 < L.length) : storeLocals L.toArray k v = storeSelf (L.set (k + 1) .unset).toArray k v := by
  simp only [storeLocals, Option.bind_eq_bind, get_l h, Option.bind_some]
  rw [if_pos hw, setAt_l l2, Option.bind_some]
theorem self_1 {L : List Slot} {k : Nat} {v : Value} (hv : v.category = 1) (l : k < L.length) : storeSelf L.toArray k v = some (L.set k (.val v)).toArray := by
  simp only [storeSelf, Option.bind_eq_bind, setAt_l l, Option.bind_some]
  rw [if_neg (by rw [hv]; decide)]
theorem self_2 {L : List Slot} {k : Nat} {v : Value} {o : Slot} (hv : v.category = 2) (h : L[k + 1]? = some o) (ho : k1 o ∨ o = .second) (l : k < L.length) : storeSelf L.toArray k v = some ((L.set k (.val v)).set (k + 1) .second).toArray := by
  have l2 := (List.getElem?_eq_some_iff.mp h).1
  have e2 : (L.set k (.val v))[k + 1]? = some o := by rw [List.getElem?_set_ne (by omega)]; exact h
  simp only [storeSelf, Option.bind_eq_bind, setAt_l l, Option.bind_some]
  rw [if_pos hv, get_l e2, Option.bind_some]
  rcases ho with (rfl | ⟨w, rfl, hw⟩) | rfl
  · exact setAt_l (by rw [List.length_set]; exact l2)
  · dsimp only
    rw [if_neg (by rw [hw]; decide)]
    exact setAt_l (by rw [List.length_set]; exact l2)
  · exact setAt_l (by rw [List.length_set]; exact l2)
theorem self_3 {L : List Slot} {k : Nat} {v w : Value} (hv : v.category = 2) (h : L[k + 1]? = some (.val w)) (hw : w.category = 2) (l3 : k + 2 < L.length) (l : k < L.length) : storeSelf L.toArray k v = some (((L.set k (.val v)).set (k + 2) .unset).set (k + 1) .second).toArray := by
  have l2 := (List.getElem?_eq_some_iff.mp h).1
  have e2 : (L.set k (.val v))[k + 1]? = some (.val w) := by rw [List.getElem?_set_ne (by omega)]; exact h
  simp only [storeSelf, Option.bind_eq_bind, setAt_l l, Option.bind_some]
  rw [if_pos hv, get_l e2, Option.bind_some]
  dsimp only
  rw [if_pos hw, setAt_l (by rw [List.length_set]; exact l3), Option.bind_some, setAt_l (by rw [List.length_set, List.length_set]; exact l2)]
theorem stx {L : List Slot} {k : Nat} {o : Slot} {v : Value} (h : L[k]? = some o) (ho : k1 o) (hv : v.category = 1) : storeLocals L.toArray k v = some (L.set k (.val v)).toArray := by
  rw [store_k h ho, self_1 hv (List.getElem?_eq_some_iff.mp h).1]
theorem stx3 {L : List Slot} {k : Nat} {o o2 : Slot} {u : Int64} (h : L[k]? = some o) (h2 : L[k + 1]? = some o2) (ho : k1 o) (ho2 : k1 o2) : storeLocals L.toArray k (.long u) = some ((L.set k (.val (.long u))).set (k + 1) .second).toArray := by
  rw [store_k h ho, self_2 rfl h2 (Or.inl ho2) (List.getElem?_eq_some_iff.mp h).1]
theorem stx2 {L : List Slot} {k : Nat} {o o2 : Slot} {u : Int64} (h : L[k]? = some o) (h2 : L[k + 1]? = some o2) (ho : k2 o o2) : storeLocals L.toArray k (.long u) = some ((L.set k (.val (.long u))).set (k + 1) .second).toArray := by
  have l1 := (List.getElem?_eq_some_iff.mp h).1
  have l2 := (List.getElem?_eq_some_iff.mp h2).1
  rcases ho with ⟨rfl, rfl⟩ | ⟨u', rfl, rfl⟩
  · exact stx3 h h2 (Or.inl rfl) (Or.inl rfl)
  · rw [store_2 h rfl l2, self_2 (o := .unset) rfl (by rw [List.getElem?_set_self l2]) (Or.inl (Or.inl rfl)) (by rw [List.length_set]; exact l1)]
    rw [List.set_comm _ _ (show k + 1 ≠ k by omega), List.set_set]
theorem stx4 {L : List Slot} {k : Nat} {o2 : Slot} {w : Int64} {v : Value} (h : L[k]? = some (.val (.long w))) (h2 : L[k + 1]? = some o2) (hv : v.category = 1) : storeLocals L.toArray k v = some ((L.set (k + 1) .unset).set k (.val v)).toArray := by
  rw [store_2 h rfl (List.getElem?_eq_some_iff.mp h2).1, self_1 hv (by rw [List.length_set]; exact (List.getElem?_eq_some_iff.mp h).1)]
theorem stx5 {L : List Slot} {k : Nat} {o o3 : Slot} {w u : Int64} (h : L[k]? = some o) (ho : k1 o) (h2 : L[k + 1]? = some (.val (.long w))) (h3 : L[k + 2]? = some o3) : storeLocals L.toArray k (.long u) = some (((L.set k (.val (.long u))).set (k + 2) .unset).set (k + 1) .second).toArray := by
  rw [store_k h ho, self_3 rfl h2 rfl (List.getElem?_eq_some_iff.mp h3).1 (List.getElem?_eq_some_iff.mp h).1]
/-- a tail of dead variables -/
def wtf : Slot ⊕ Int64 → List Slot
  | .inl x => [x]
  | .inr u => [.val (.long u), .second]
def WT (D : List Slot) : Prop := ∃ l : List (Slot ⊕ Int64), D = l.flatMap wtf ∧ ∀ x, Sum.inl x ∈ l → k1 x
theorem wt0 : WT [] := ⟨[], rfl, fun _ h => nomatch h⟩
theorem wt1 {x : Slot} {D : List Slot} (h : k1 x) (W : WT D) : WT (x :: D) := by
  obtain ⟨l, rfl, g⟩ := W
  refine ⟨.inl x :: l, by simp [wtf], fun y hy => ?_⟩
  rcases List.mem_cons.mp hy with e | e
  · cases e; exact h
  · exact g y e
theorem wt2 {u : Int64} {D : List Slot} (W : WT D) : WT (.val (.long u) :: .second :: D) := by
  obtain ⟨l, rfl, g⟩ := W
  refine ⟨.inr u :: l, by simp [wtf], fun y hy => ?_⟩
  rcases List.mem_cons.mp hy with e | e
  · cases e
  · exact g y e
theorem wt12 {x y : Slot} {D : List Slot} (h : k2 x y) (W : WT D) : WT (x :: y :: D) := by
  rcases h with ⟨rfl, rfl⟩ | ⟨u, rfl, rfl⟩
  · exact wt1 (Or.inl rfl) (wt1 (Or.inl rfl) W)
  · exact wt2 W
theorem wt_cases {D : List Slot} (W : WT D) : D = [] ∨ (∃ x E, D = x :: E ∧ k1 x ∧ WT E) ∨ ∃ u E, D = .val (.long u) :: .second :: E ∧ WT E := by
  obtain ⟨l, rfl, g⟩ := W
  match l, g with
  | [], _ => exact Or.inl rfl
  | .inl x :: r, g => exact Or.inr (Or.inl ⟨x, r.flatMap wtf, by simp [wtf], g x (List.mem_cons_self ..), r, rfl, fun y hy => g y (List.mem_cons_of_mem _ hy)⟩)
  | .inr u :: r, g => exact Or.inr (Or.inr ⟨u, r.flatMap wtf, by simp [wtf], r, rfl, fun y hy => g y (List.mem_cons_of_mem _ hy)⟩)
theorem stT {L0 D : List Slot} {v : Value} {n : Nat} (W : WT D) (hl : D.length = n + 1) (hv : v.category = 1) : ∃ D', WT D' ∧ D'.length = n ∧ storeLocals (L0 ++ D).toArray L0.length v = some (L0 ++ ([.val v] : List Slot) ++ D').toArray := by
  rcases wt_cases W with rfl | ⟨x, E, rfl, hx, WE⟩ | ⟨u, E, rfl, WE⟩
  · simp at hl
  · refine ⟨E, WE, by simpa using hl, ?_⟩
    rw [stx (o := x) (by simp) hx hv]; simp
  · refine ⟨.unset :: E, wt1 (Or.inl rfl) WE, by simpa using hl, ?_⟩
    rw [stx4 (w := u) (o2 := .second) (by simp) (by rw [List.getElem?_append_right (by omega)]; simp) hv]
    simp [List.set_append]
theorem stT2 {L0 D : List Slot} {u : Int64} {n : Nat} (W : WT D) (hl : D.length = n + 2) : ∃ D', WT D' ∧ D'.length = n ∧ storeLocals (L0 ++ D).toArray L0.length (.long u) = some (L0 ++ ([.val (.long u), .second] : List Slot) ++ D').toArray := by
  rcases wt_cases W with rfl | ⟨x, E, rfl, hx, WE⟩ | ⟨w, E, rfl, WE⟩
  · simp at hl
  · rcases wt_cases WE with rfl | ⟨y, F, rfl, hy, WF⟩ | ⟨w, F, rfl, WF⟩
    · simp at hl
    · refine ⟨F, WF, by simpa using hl, ?_⟩
      rw [stx3 (o := x) (o2 := y) (by simp) (by rw [List.getElem?_append_right (by omega)]; simp) hx hy]
      simp [List.set_append]
    · refine ⟨.unset :: F, wt1 (Or.inl rfl) WF, by simpa using hl, ?_⟩
      rw [stx5 (o := x) (w := w) (o3 := .second) (by simp) hx (by rw [List.getElem?_append_right (by omega)]; simp) (by rw [List.getElem?_append_right (by omega)]; simp)]
      simp [List.set_append]
  · refine ⟨E, WE, by simpa using hl, ?_⟩
    rw [stx2 (o := .val (.long w)) (o2 := .second) (by simp) (by rw [List.getElem?_append_right (by omega)]; simp) (Or.inr ⟨w, rfl, rfl⟩)]
    simp [List.set_append]
/-- the variables at a method's entry -/
def argL : List Value → List Slot
  | [] => []
  | v :: r => if v.category = 2 then .val v :: .second :: argL r else .val v :: argL r
def entryL (as : List Value) (n : Nat) : List Slot := argL as ++ List.replicate (n - (argL as).length) .unset
theorem argL_fold : ∀ (as : List Value) (acc : List Slot), as.foldl (fun acc v => if v.category = 2 then (acc.push (.val v)).push .second else acc.push (.val v)) acc.toArray = (acc ++ argL as).toArray
  | [], acc => by simp [argL]
  | v :: r, acc => by
    simp only [List.foldl_cons, argL]
    split
    · rename_i q
      rw [show ((acc.toArray.push (Slot.val v)).push Slot.second) = (acc ++ [Slot.val v, Slot.second]).toArray by simp, argL_fold r]
      simp
    · rename_i q
      rw [show (acc.toArray.push (Slot.val v)) = (acc ++ [Slot.val v]).toArray by simp, argL_fold r]
      simp
theorem argL_map (α b : Nat) : ∀ as : List Value, argL (cV α b as) = (argL as).map (cs α b)
  | [] => rfl
  | v :: r => by
    have ih := argL_map α b r
    simp only [cV, List.map_cons, argL, con_cat] at ih ⊢
    split <;> simp [ih, cs]
theorem entry_locals (α b : Nat) (as : List Value) (n : Nat) : argsToLocals (cV α b as).toArray n = cL α b (entryL as n) := by
  have h := argL_fold (cV α b as) []
  simp only [List.nil_append] at h
  have h' : (cV α b as).toArray.foldl (fun acc v => if v.category = 2 then (acc.push (Slot.val v)).push Slot.second else acc.push (Slot.val v)) #[] = (argL (cV α b as)).toArray := by
    rw [← h]; simp
  simp only [argsToLocals]
  rw [h', argL_map]
  simp [cL, entryL, List.map_append, cs]
/-! ## 3. What the heap shows -/
def scV (ty : FieldType) (s : S) (f : Nat) : Value := match ty with
  | .long => .long (gL s f)
  | _ => .int (gI s f)
def arV (ty : FieldType) (s : S) (q : Nat) : List Value := match ty with
  | .long => (gB s q).map .long
  | _ => (gA s q).map .int
def Ar (Z : State) (h : Heap) (a : Nat) (ty : FieldType) (vs : List Value) : Prop := ∃ c : Cell, Arr Z h a c ty ∧ c.slots = vs.toArray
def Rep1 (Z : State) (ci : CI) (h : Heap) (b : Nat) (o : Nat × S) : Prop :=
  Exa Z h b (cN ci) ∧ (∀ f x, (cS ci)[f]? = some x → Fld Z h b (cN ci) x.1 x.2.1 (scV x.2.2 o.2 f)) ∧
  (∀ q x, (cA ci)[q]? = some x → Fld Z h b (cN ci) x.1 x.2.1 (if q < o.1 then .ref (b + 1 + q) else .null)) ∧
  (∀ q x, (cA ci)[q]? = some x → q < o.1 → Ar Z h (b + 1 + q) x.2.2.1 (arV x.2.2.1 o.2 q))
def RepW (Z : State) (ci : CI) (α b : Nat) (w : W) (h : Heap) : Prop :=
  (∀ l, w.1 = some l → Ar Z h α .int (l.map .int) ∧ α < b) ∧ ∀ i o, w.2[i]? = some o → Rep1 Z ci h (b + (cK ci + 1) * i) o
def Frm (lo hi : Nat) (h0 h : Heap) : Prop := ∀ (x : Nat) (c : Cell), h0[x]? = some c → (x < lo ∨ hi ≤ x) → h[x]? = some c
def usedC (w : W) : Nat := (w.2.map fun o => 1 + o.1).sum
def usedS (ci : CI) (w : W) : Nat := (w.2.map fun o => cF ci + (((cA ci).take o.1).map fun x => x.2.2.2).sum).sum
/-- what the sheet says of the class -/
def Facts (Z : State) (a0 : Array Value) (ci : CI) : Prop :=
  (Jvm.Cond.instantiable (cN ci) (cF ci)).before a0 Z = true ∧ (Jvm.Cond.initialized (cN ci)).before a0 Z = true ∧
  (∀ (f : Nat) (x : String × String × FieldType), (cS ci)[f]? = some x → Laid Z a0 (cN ci) (cN ci) x.1 x.2.1 ∧ parseFieldDescriptor x.2.1 = some x.2.2) ∧
  (∀ (q : Nat) (x : String × String × FieldType × Nat), (cA ci)[q]? = some x → Laid Z a0 (cN ci) (cN ci) x.1 x.2.1 ∧ parseFieldDescriptor x.2.1 = some (.array x.2.2.1)) ∧
  ((cS ci).map (fun x => x.1) ++ (cA ci).map (fun x => x.1)).Nodup ∧ (∀ f x, (cS ci)[f]? = some x → defaultValue x.2.2 = scV x.2.2 s0 f) ∧ (cN ci ≠ "java/lang/invoke/MethodHandle" ∧ cN ci ≠ "java/lang/invoke/VarHandle")
theorem nq {a b : Nat} (h : a ≠ b) : @Ne Addr a b := h
theorem Ar.frm {Z : State} {h h' : Heap} {a : Nat} {ty : FieldType} {vs : List Value} (A : Ar Z h a ty vs) (k : ∀ c, h[a]? = some c → h'[a]? = some c) : Ar Z h' a ty vs := by
  obtain ⟨c, ⟨q1, q2⟩, q3⟩ := A; exact ⟨c, ⟨k c q1, q2⟩, q3⟩
theorem fld_frm {Z : State} {h h' : Heap} {a : Nat} {C n d : String} {v : Value} (F : Fld Z h a C n d v) (k : ∀ c, h[a]? = some c → h'[a]? = some c) : Fld Z h' a C n d v := by
  obtain ⟨cell, cf, kc, i, f, h1, r⟩ := F; exact ⟨cell, cf, kc, i, f, k _ h1, r⟩
theorem exa_frm {Z : State} {h h' : Heap} {a : Nat} {C : String} (F : Exa Z h a C) (k : ∀ c, h[a]? = some c → h'[a]? = some c) : Exa Z h' a C := by
  obtain ⟨cell, kc, h1, r⟩ := F; exact ⟨cell, kc, k _ h1, r⟩
theorem get_lt {A : Type} {l : List A} {i : Nat} {x : A} (h : l[i]? = some x) : i < l.length := (List.getElem?_eq_some_iff.mp h).1
theorem Rep1.frm {Z : State} {ci : CI} {h h' : Heap} {b : Nat} {o : Nat × S} (F : Rep1 Z ci h b o) (k : ∀ x c, b ≤ x → x < b + (cK ci + 1) → h[x]? = some c → h'[x]? = some c) : Rep1 Z ci h' b o := by
  obtain ⟨f1, f2, f3, f4⟩ := F
  refine ⟨exa_frm f1 fun c => k b c (Nat.le_refl _) (by omega), fun f x hx => fld_frm (f2 f x hx) fun c => k b c (Nat.le_refl _) (by omega), fun q x hx => fld_frm (f3 q x hx) fun c => k b c (Nat.le_refl _) (by omega), fun q x hx hq => (f4 q x hx hq).frm fun c => k _ c (by omega) ?_⟩
  have := get_lt hx
  simp only [cK]; omega
theorem RepW.ext {Z : State} {ci : CI} {α b : Nat} {w : W} {h h' : Heap} (F : RepW Z ci α b w h) (E : Ext h h') : RepW Z ci α b w h' :=
  ⟨fun l hl => ⟨((F.1 l hl).1).frm fun c q => E.2 _ _ q, (F.1 l hl).2⟩, fun i o ho => (F.2 i o ho).frm fun x c _ _ q => E.2 _ _ q⟩
theorem Frm.refl (lo hi : Nat) (h : Heap) : Frm lo hi h h := fun _ _ q _ => q
theorem Frm.trans {lo hi : Nat} {h0 h1 h2 : Heap} (A : Frm lo hi h0 h1) (B : Frm lo hi h1 h2) : Frm lo hi h0 h2 := fun x c q r => B x c (A x c q r) r
theorem Frm.wide {lo hi lo' hi' : Nat} {h0 h1 : Heap} (A : Frm lo hi h0 h1) (q1 : lo' ≤ lo) (q2 : hi ≤ hi') : Frm lo' hi' h0 h1 := fun x c q r => A x c q (by omega)
theorem Frm.ext {lo hi : Nat} {h0 h1 h2 : Heap} (A : Frm lo hi h0 h1) (E : Ext h1 h2) : Frm lo hi h0 h2 := fun x c q r => E.2 _ _ (A x c q r)
theorem Frm.wr {lo hi : Nat} {h0 h1 h2 : Heap} {a : Nat} {sl : Nat} {v : Value} (A : Frm lo hi h0 h1) (Wt : Wr h1 h2 a sl v) (q1 : lo ≤ a) (q2 : a < hi) : Frm lo hi h0 h2 := fun x c q r => by
  have q3 := A x c q r
  obtain ⟨c', e1, -, -, -, e5, -⟩ := wr_at Wt q3
  have : x ≠ a := by omega
  rw [← e5 this]; exact e1
/-! ## 4. The walk -/
def Ok (P : PI) (M : Meth) (Z : State) (a0 : Array Value) (p : Program) (R : Room) (s : State) (m : MethodId) (meth : Method) (c : Code) (b n0 : Nat) (h0 : Heap) (uC uS : Nat) : Prop :=
  (∀ d ∈ P.1, d.before a0 Z = true) ∧ Facts Z a0 P.2 ∧ p.tables.exec = Jvm.exec ∧ Z.Warmed39 s.vm ∧ s.vm.findClass (mY M).cls = some m.cls ∧ c.code = mB M ∧ c.maxLocals = mL M ∧ meth.sig.returnType = mT M ∧ meth.name = (mY M).name ∧ R = mR M ∧ n0 ≤ b ∧
  (mTop M = true → h0.size = b + uC ∧ uC = mUC M ∧ uS = mUS M) ∧ s.heap.size = h0.size
def Inv (P : PI) (M : Meth) (l : Launch) (Z : State) (p : Program) (e : Env) (R : Room) (s : State) (m : MethodId) (args : Array Value) (below : List Frame) (meth : Method) (c : Code) (α b n0 : Nat) (h0 : Heap) (uC uS : Nat) (w : W) (T : State) (locs : List Loc) (cells slots : Nat) : Prop :=
  Stand p l e R s m args below meth c T locs cells slots ∧ RepW Z P.2 α b w T.heap ∧ Frm b (b + (cK P.2 + 1) * mN M) h0 T.heap ∧ Fr n0 locs ∧ T.heap.size = h0.size + cells ∧ cells + uC = usedC w ∧ slots + uS = usedS P.2 w ∧ cells ≤ R.cells ∧ slots ≤ R.slots ∧ w.2.length ≤ mN M
def Lv (e : Env) (T : State) (m : MethodId) (r : Option Value) (fs : List Frame) : Prop := ∀ (f : JFrame) (acts : List Action), f.method = m → f.locked = none → f.entered = [] → (doReturn e (T.setTop f) acts r).1 = T.setFrames fs
/-- from here the invocation comes to its end, with this value and this world -/
def Go (P : PI) (M : Meth) (pc : Nat) (L : List Slot) (st : List Value) (w : W) (out : Option Value × W) : Prop :=
  L.length = mL M → ∀ (l : Launch) (Z : State) (a0 : Array Value) (p : Program) (e : Env) (R : Room) (s : State) (m : MethodId) (args : Array Value) (below : List Frame) (meth : Method) (c : Code) (α b n0 : Nat) (h0 : Heap) (uC uS : Nat),
    Ok P M Z a0 p R s m meth c b n0 h0 uC uS → ∀ (T : State) (locs : List Loc) (cells slots : Nat), Inv P M l Z p e R s m args below meth c α b n0 h0 uC uS w T locs cells slots →
    ∃ (T' : State) (locs' : List Loc) (cells' slots' : Nat), Inv P M l Z p e R s m args below meth c α b n0 h0 uC uS out.2 T' locs' cells' slots' ∧
      ∀ fs, Lv e T' m (out.1.map (con α b)) fs → Steps p.tables e below (T.setTop (mkF m pc (cL α b L) (cV α b st))) (T'.setFrames fs)
section Rules
variable {P : PI} {M : Meth} {pc pc' : Nat} {L L' : List Slot} {st st' : List Value} {w w' : W} {out : Option Value × W} {x y z v : Int32} {u r : Int64}
theorem go_mv (hL : L.length = mL M → L'.length = mL M)
    (H : ∀ {p : Program} {e : Env} {below : List Frame} {T target : State} {m : MethodId} {c : Code}, At T m c below → p.tables.exec = Jvm.exec → c.code = mB M → ∀ α b : Nat, Steps p.tables e below (T.setTop (mkF m pc' (cL α b L') (cV α b st'))) target → Steps p.tables e below (T.setTop (mkF m pc (cL α b L) (cV α b st))) target)
    (k : Go P M pc' L' st' w out) : Go P M pc L st w out := by
  intro hl l Z a0 p e R s m args below meth c α b n0 h0 uC uS ok T locs cells slots I
  obtain ⟨T', l', c', n', I', fin⟩ := k (hL hl) l Z a0 p e R s m args below meth c α b n0 h0 uC uS ok T locs cells slots I
  exact ⟨T', l', c', n', I', fun fs hv => H I.1.here ok.2.2.1 ok.2.2.2.2.2.1 α b (fin fs hv)⟩
theorem go_ch (H : ∀ (l : Launch) (Z : State) (a0 : Array Value) (p : Program) (e : Env) (R : Room) (s : State) (m : MethodId) (args : Array Value) (below : List Frame) (meth : Method) (c : Code) (α b n0 : Nat) (h0 : Heap) (uC uS : Nat),
      Ok P M Z a0 p R s m meth c b n0 h0 uC uS → L.length = mL M → ∀ (T : State) (locs : List Loc) (cells slots : Nat), Inv P M l Z p e R s m args below meth c α b n0 h0 uC uS w T locs cells slots →
      ∃ (T' : State) (locs' : List Loc) (cells' slots' : Nat), Inv P M l Z p e R s m args below meth c α b n0 h0 uC uS w' T' locs' cells' slots' ∧
        ∀ target, Steps p.tables e below (T'.setTop (mkF m pc' (cL α b L) (cV α b st'))) target → Steps p.tables e below (T.setTop (mkF m pc (cL α b L) (cV α b st))) target)
    (k : Go P M pc' L st' w' out) : Go P M pc L st w out := by
  intro hl l Z a0 p e R s m args below meth c α b n0 h0 uC uS ok T locs cells slots I
  obtain ⟨T1, l1, c1, n1, I1, h1⟩ := H l Z a0 p e R s m args below meth c α b n0 h0 uC uS ok hl T locs cells slots I
  obtain ⟨T', l', c', n', I', fin⟩ := k hl l Z a0 p e R s m args below meth c α b n0 h0 uC uS ok T1 l1 c1 n1 I1
  exact ⟨T', l', c', n', I', fun fs hv => h1 _ (fin fs hv)⟩
/-! ### loads, stores, constants -/
theorem go_iloadN {k : Fin 4} (d : decode (mB M) pc = .ok (.iload_n k, 1)) (hl : L[k.val]? = some (.val (.int v))) (g : Go P M (pc + 1) L (.int v :: st) w out) : Go P M pc L (st) w out :=
  go_mv id (fun h hx hc α b r => XS.iloadN (g := mkF _ pc (cL α b L) (cV α b (st))) h hx rfl (hb hc d) (cL_get hl) r) g
theorem go_iload {k : Nat} (d : decode (mB M) pc = .ok (.iload k, 2)) (hl : L[k]? = some (.val (.int v))) (g : Go P M (pc + 2) L (.int v :: st) w out) : Go P M pc L (st) w out :=
  go_mv id (fun h hx hc α b r => XS.iload (g := mkF _ pc (cL α b L) (cV α b (st))) h hx rfl (hb hc d) (cL_get hl) r) g
theorem go_lloadN {k : Fin 4} (d : decode (mB M) pc = .ok (.lload_n k, 1)) (hl : L[k.val]? = some (.val (.long u))) (g : Go P M (pc + 1) L (.long u :: st) w out) : Go P M pc L (st) w out :=
  go_mv id (fun h hx hc α b r => XT.lloadN (g := mkF _ pc (cL α b L) (cV α b (st))) h hx rfl (hb hc d) (cL_get hl) r) g
theorem go_lload {k : Nat} (d : decode (mB M) pc = .ok (.lload k, 2)) (hl : L[k]? = some (.val (.long u))) (g : Go P M (pc + 2) L (.long u :: st) w out) : Go P M pc L (st) w out :=
  go_mv id (fun h hx hc α b r => XT.lload (g := mkF _ pc (cL α b L) (cV α b (st))) h hx rfl (hb hc d) (cL_get hl) r) g
theorem go_aloadN {k : Fin 4} {a : Nat} (d : decode (mB M) pc = .ok (.aload_n k, 1)) (hl : L[k.val]? = some (.val (.ref a))) (g : Go P M (pc + 1) L (.ref a :: st) w out) : Go P M pc L (st) w out :=
  go_mv id (fun h hx hc α b r => XS.aloadN (g := mkF _ pc (cL α b L) (cV α b (st))) h hx rfl (hb hc d) (cL_get hl) (con_ref α b (.ref a)) r) g
theorem go_aload {k : Nat} {a : Nat} (d : decode (mB M) pc = .ok (.aload k, 2)) (hl : L[k]? = some (.val (.ref a))) (g : Go P M (pc + 2) L (.ref a :: st) w out) : Go P M pc L (st) w out :=
  go_mv id (fun h hx hc α b r => XS.aload (g := mkF _ pc (cL α b L) (cV α b (st))) h hx rfl (hb hc d) (cL_get hl) (con_ref α b (.ref a)) r) g
theorem go_istoreN {k : Fin 4} (d : decode (mB M) pc = .ok (.istore_n k, 1)) (hl : storeLocals L.toArray k.val (.int x) = some L'.toArray) (g : Go P M (pc + 1) L' (st) w out) : Go P M pc L (.int x :: st) w out :=
  go_mv (fun q => by have := store_size hl; simp at this; omega) (fun h hx hc α b r => XS.istoreN (g := mkF _ pc (cL α b L) (cV α b (.int x :: st))) h hx rfl (hb hc d) rfl (storeC hl) r) g
theorem go_istore {k : Nat} (d : decode (mB M) pc = .ok (.istore k, 2)) (hl : storeLocals L.toArray k (.int x) = some L'.toArray) (g : Go P M (pc + 2) L' (st) w out) : Go P M pc L (.int x :: st) w out :=
  go_mv (fun q => by have := store_size hl; simp at this; omega) (fun h hx hc α b r => XS.istore (g := mkF _ pc (cL α b L) (cV α b (.int x :: st))) h hx rfl (hb hc d) rfl (storeC hl) r) g
theorem go_lstoreN {k : Fin 4} (d : decode (mB M) pc = .ok (.lstore_n k, 1)) (hl : storeLocals L.toArray k.val (.long u) = some L'.toArray) (g : Go P M (pc + 1) L' (st) w out) : Go P M pc L (.long u :: st) w out :=
  go_mv (fun q => by have := store_size hl; simp at this; omega) (fun h hx hc α b r => XT.lstoreN (g := mkF _ pc (cL α b L) (cV α b (.long u :: st))) h hx rfl (hb hc d) rfl (storeC hl) r) g
theorem go_lstore {k : Nat} (d : decode (mB M) pc = .ok (.lstore k, 2)) (hl : storeLocals L.toArray k (.long u) = some L'.toArray) (g : Go P M (pc + 2) L' (st) w out) : Go P M pc L (.long u :: st) w out :=
  go_mv (fun q => by have := store_size hl; simp at this; omega) (fun h hx hc α b r => XT.lstore (g := mkF _ pc (cL α b L) (cV α b (.long u :: st))) h hx rfl (hb hc d) rfl (storeC hl) r) g
theorem go_astoreN {k : Fin 4} {a : Nat} (d : decode (mB M) pc = .ok (.astore_n k, 1)) (hl : storeLocals L.toArray k.val (.ref a) = some L'.toArray) (g : Go P M (pc + 1) L' (st) w out) : Go P M pc L (.ref a :: st) w out :=
  go_mv (fun q => by have := store_size hl; simp at this; omega) (fun h hx hc α b r => XS.astoreN (g := mkF _ pc (cL α b L) (cV α b (.ref a :: st))) h hx rfl (hb hc d) rfl (con_ref α b (.ref a)) (storeC hl) r) g
theorem go_astore {k : Nat} {a : Nat} (d : decode (mB M) pc = .ok (.astore k, 2)) (hl : storeLocals L.toArray k (.ref a) = some L'.toArray) (g : Go P M (pc + 2) L' (st) w out) : Go P M pc L (.ref a :: st) w out :=
  go_mv (fun q => by have := store_size hl; simp at this; omega) (fun h hx hc α b r => XS.astore (g := mkF _ pc (cL α b L) (cV α b (.ref a :: st))) h hx rfl (hb hc d) rfl (con_ref α b (.ref a)) (storeC hl) r) g
theorem go_istoreNT {k : Fin 4} {L0 L1 D : List Slot} {n : Nat} (d : decode (mB M) pc = .ok (.istore_n k, 1)) (hk : k.val = L0.length) (h1 : L1 = L0 ++ [.val (.int x)]) (W : WT D) (hl : D.length = n + 1) (g : ∀ D', WT D' → D'.length = n → Go P M (pc + 1) (L1 ++ D') st w out) : Go P M pc (L0 ++ D) (.int x :: st) w out := by
  obtain ⟨D', W', l', e⟩ := stT (L0 := L0) (v := .int x) W hl rfl
  subst h1
  exact go_istoreN d (by rw [hk]; exact e) (g D' W' l')
theorem go_istoreT {k : Nat} {L0 L1 D : List Slot} {n : Nat} (d : decode (mB M) pc = .ok (.istore k, 2)) (hk : k = L0.length) (h1 : L1 = L0 ++ [.val (.int x)]) (W : WT D) (hl : D.length = n + 1) (g : ∀ D', WT D' → D'.length = n → Go P M (pc + 2) (L1 ++ D') st w out) : Go P M pc (L0 ++ D) (.int x :: st) w out := by
  obtain ⟨D', W', l', e⟩ := stT (L0 := L0) (v := .int x) W hl rfl
  subst h1
  exact go_istore d (by rw [hk]; exact e) (g D' W' l')
theorem go_astoreNT {k : Fin 4} {L0 L1 D : List Slot} {n : Nat} {a : Nat} (d : decode (mB M) pc = .ok (.astore_n k, 1)) (hk : k.val = L0.length) (h1 : L1 = L0 ++ [.val (.ref a)]) (W : WT D) (hl : D.length = n + 1) (g : ∀ D', WT D' → D'.length = n → Go P M (pc + 1) (L1 ++ D') st w out) : Go P M pc (L0 ++ D) (.ref a :: st) w out := by
  obtain ⟨D', W', l', e⟩ := stT (L0 := L0) (v := .ref a) W hl rfl
  subst h1
  exact go_astoreN d (by rw [hk]; exact e) (g D' W' l')
theorem go_astoreT {k : Nat} {L0 L1 D : List Slot} {n : Nat} {a : Nat} (d : decode (mB M) pc = .ok (.astore k, 2)) (hk : k = L0.length) (h1 : L1 = L0 ++ [.val (.ref a)]) (W : WT D) (hl : D.length = n + 1) (g : ∀ D', WT D' → D'.length = n → Go P M (pc + 2) (L1 ++ D') st w out) : Go P M pc (L0 ++ D) (.ref a :: st) w out := by
  obtain ⟨D', W', l', e⟩ := stT (L0 := L0) (v := .ref a) W hl rfl
  subst h1
  exact go_astore d (by rw [hk]; exact e) (g D' W' l')
theorem go_lstoreNT {k : Fin 4} {L0 L1 D : List Slot} {n : Nat} (d : decode (mB M) pc = .ok (.lstore_n k, 1)) (hk : k.val = L0.length) (h1 : L1 = L0 ++ [.val (.long u), .second]) (W : WT D) (hl : D.length = n + 2) (g : ∀ D', WT D' → D'.length = n → Go P M (pc + 1) (L1 ++ D') st w out) : Go P M pc (L0 ++ D) (.long u :: st) w out := by
  obtain ⟨D', W', l', e⟩ := stT2 (L0 := L0) (u := u) W hl
  subst h1
  exact go_lstoreN d (by rw [hk]; exact e) (g D' W' l')
theorem go_lstoreT {k : Nat} {L0 L1 D : List Slot} {n : Nat} (d : decode (mB M) pc = .ok (.lstore k, 2)) (hk : k = L0.length) (h1 : L1 = L0 ++ [.val (.long u), .second]) (W : WT D) (hl : D.length = n + 2) (g : ∀ D', WT D' → D'.length = n → Go P M (pc + 2) (L1 ++ D') st w out) : Go P M pc (L0 ++ D) (.long u :: st) w out := by
  obtain ⟨D', W', l', e⟩ := stT2 (L0 := L0) (u := u) W hl
  subst h1
  exact go_lstore d (by rw [hk]; exact e) (g D' W' l')
theorem go_iconst {i : Int} (d : decode (mB M) pc = .ok (.iconst i, 1)) (hv : v = Int32.ofInt i) (g : Go P M (pc + 1) L (.int v :: st) w out) : Go P M pc L (st) w out :=
  go_mv id (fun h hx hc α b r => XS.iconst (g := mkF _ pc (cL α b L) (cV α b (st))) h hx rfl (hb hc d) (hv ▸ r)) g
theorem go_bipush {i : Int} (d : decode (mB M) pc = .ok (.bipush i, 2)) (hv : v = (Int8.ofInt i).toInt32) (g : Go P M (pc + 2) L (.int v :: st) w out) : Go P M pc L (st) w out :=
  go_mv id (fun h hx hc α b r => XS.bipush (g := mkF _ pc (cL α b L) (cV α b (st))) h hx rfl (hb hc d) (hv ▸ r)) g
theorem go_sipush {i : Int} (d : decode (mB M) pc = .ok (.sipush i, 3)) (hv : v = (Int16.ofInt i).toInt32) (g : Go P M (pc + 3) L (.int v :: st) w out) : Go P M pc L (st) w out :=
  go_mv id (fun h hx hc α b r => XS.sipush (g := mkF _ pc (cL α b L) (cV α b (st))) h hx rfl (hb hc d) (hv ▸ r)) g
theorem go_lconst {i : Fin 2} (d : decode (mB M) pc = .ok (.lconst i, 1)) (hv : u = Int64.ofNat i) (g : Go P M (pc + 1) L (.long u :: st) w out) : Go P M pc L (st) w out :=
  go_mv id (fun h hx hc α b r => XT.lconst (g := mkF _ pc (cL α b L) (cV α b (st))) h hx rfl (hb hc d) (hv ▸ r)) g
theorem go_dup  (d : decode (mB M) pc = .ok (.dup, 1))  (g : Go P M (pc + 1) L (.int x :: .int x :: st) w out) : Go P M pc L (.int x :: st) w out :=
  go_mv id (fun h hx hc α b r => XS.dup (g := mkF _ pc (cL α b L) (cV α b (.int x :: st))) h hx rfl (hb hc d) rfl rfl r) g
theorem go_dupR {a : Nat} (d : decode (mB M) pc = .ok (.dup, 1))  (g : Go P M (pc + 1) L (.ref a :: .ref a :: st) w out) : Go P M pc L (.ref a :: st) w out :=
  go_mv id (fun h hx hc α b r => XS.dup (g := mkF _ pc (cL α b L) (cV α b (.ref a :: st))) h hx rfl (hb hc d) rfl (con_cat α b (.ref a)) r) g
theorem go_dup2 {a : Nat} (d : decode (mB M) pc = .ok (.dup2, 1))  (g : Go P M (pc + 1) L (.int x :: .ref a :: .int x :: .ref a :: st) w out) : Go P M pc L (.int x :: .ref a :: st) w out :=
  go_mv id (fun h hx hc α b r => XT.dup2 (g := mkF _ pc (cL α b L) (cV α b (.int x :: .ref a :: st))) h hx rfl (hb hc d) rfl rfl (con_cat α b (.ref a)) r) g
theorem go_dup2I  (d : decode (mB M) pc = .ok (.dup2, 1))  (g : Go P M (pc + 1) L (.int x :: .int y :: .int x :: .int y :: st) w out) : Go P M pc L (.int x :: .int y :: st) w out :=
  go_mv id (fun h hx hc α b r => XT.dup2 (g := mkF _ pc (cL α b L) (cV α b (.int x :: .int y :: st))) h hx rfl (hb hc d) rfl rfl rfl r) g
theorem go_dup2L  (d : decode (mB M) pc = .ok (.dup2, 1))  (g : Go P M (pc + 1) L (.long u :: .long u :: st) w out) : Go P M pc L (.long u :: st) w out :=
  go_mv id (fun h hx hc α b r => XT.dup2L (g := mkF _ pc (cL α b L) (cV α b (.long u :: st))) h hx rfl (hb hc d) rfl r) g
theorem go_pop  (d : decode (mB M) pc = .ok (.pop, 1))  (g : Go P M (pc + 1) L (st) w out) : Go P M pc L (.int x :: st) w out :=
  go_mv id (fun h hx hc α b r => XT.pop (g := mkF _ pc (cL α b L) (cV α b (.int x :: st))) h hx rfl (hb hc d) rfl rfl r) g
theorem go_iadd  (d : decode (mB M) pc = .ok (.iadd, 1))  (g : Go P M (pc + 1) L (.int (x + y) :: st) w out) : Go P M pc L (.int y :: .int x :: st) w out :=
  go_mv id (fun h hx hc α b r => XS.iadd (g := mkF _ pc (cL α b L) (cV α b (.int y :: .int x :: st))) h hx rfl (hb hc d) rfl r) g
theorem go_isub  (d : decode (mB M) pc = .ok (.isub, 1))  (g : Go P M (pc + 1) L (.int (x - y) :: st) w out) : Go P M pc L (.int y :: .int x :: st) w out :=
  go_mv id (fun h hx hc α b r => XS.isub (g := mkF _ pc (cL α b L) (cV α b (.int y :: .int x :: st))) h hx rfl (hb hc d) rfl r) g
theorem go_imul  (d : decode (mB M) pc = .ok (.imul, 1))  (g : Go P M (pc + 1) L (.int (x * y) :: st) w out) : Go P M pc L (.int y :: .int x :: st) w out :=
  go_mv id (fun h hx hc α b r => XS.imul (g := mkF _ pc (cL α b L) (cV α b (.int y :: .int x :: st))) h hx rfl (hb hc d) rfl r) g
theorem go_iand  (d : decode (mB M) pc = .ok (.iand, 1))  (g : Go P M (pc + 1) L (.int (x &&& y) :: st) w out) : Go P M pc L (.int y :: .int x :: st) w out :=
  go_mv id (fun h hx hc α b r => XS.iand (g := mkF _ pc (cL α b L) (cV α b (.int y :: .int x :: st))) h hx rfl (hb hc d) rfl r) g
theorem go_ior  (d : decode (mB M) pc = .ok (.ior, 1))  (g : Go P M (pc + 1) L (.int (x ||| y) :: st) w out) : Go P M pc L (.int y :: .int x :: st) w out :=
  go_mv id (fun h hx hc α b r => XT.ior (g := mkF _ pc (cL α b L) (cV α b (.int y :: .int x :: st))) h hx rfl (hb hc d) rfl r) g
theorem go_ixor  (d : decode (mB M) pc = .ok (.ixor, 1))  (g : Go P M (pc + 1) L (.int (x ^^^ y) :: st) w out) : Go P M pc L (.int y :: .int x :: st) w out :=
  go_mv id (fun h hx hc α b r => XT.ixor (g := mkF _ pc (cL α b L) (cV α b (.int y :: .int x :: st))) h hx rfl (hb hc d) rfl r) g
theorem go_ishl  (d : decode (mB M) pc = .ok (.ishl, 1))  (g : Go P M (pc + 1) L (.int (x <<< (y &&& 31)) :: st) w out) : Go P M pc L (.int y :: .int x :: st) w out :=
  go_mv id (fun h hx hc α b r => XT.ishl (g := mkF _ pc (cL α b L) (cV α b (.int y :: .int x :: st))) h hx rfl (hb hc d) rfl r) g
theorem go_ishr  (d : decode (mB M) pc = .ok (.ishr, 1))  (g : Go P M (pc + 1) L (.int (x >>> (y &&& 31)) :: st) w out) : Go P M pc L (.int y :: .int x :: st) w out :=
  go_mv id (fun h hx hc α b r => XT.ishr (g := mkF _ pc (cL α b L) (cV α b (.int y :: .int x :: st))) h hx rfl (hb hc d) rfl r) g
theorem go_iushr  (d : decode (mB M) pc = .ok (.iushr, 1))  (g : Go P M (pc + 1) L (.int (XT.ushr x y) :: st) w out) : Go P M pc L (.int y :: .int x :: st) w out :=
  go_mv id (fun h hx hc α b r => XT.iushr (g := mkF _ pc (cL α b L) (cV α b (.int y :: .int x :: st))) h hx rfl (hb hc d) rfl r) g
theorem go_idiv  (d : decode (mB M) pc = .ok (.idiv, 1)) (hy : y ≠ 0) (g : Go P M (pc + 1) L (.int (x / y) :: st) w out) : Go P M pc L (.int y :: .int x :: st) w out :=
  go_mv id (fun h hx hc α b r => XS.idiv (g := mkF _ pc (cL α b L) (cV α b (.int y :: .int x :: st))) h hx rfl (hb hc d) rfl hy r) g
theorem go_irem  (d : decode (mB M) pc = .ok (.irem, 1)) (hy : y ≠ 0) (g : Go P M (pc + 1) L (.int (x % y) :: st) w out) : Go P M pc L (.int y :: .int x :: st) w out :=
  go_mv id (fun h hx hc α b r => XS.irem (g := mkF _ pc (cL α b L) (cV α b (.int y :: .int x :: st))) h hx rfl (hb hc d) rfl hy (by rw [irem_eq_mod x y]; exact r)) g
theorem go_ineg  (d : decode (mB M) pc = .ok (.ineg, 1))  (g : Go P M (pc + 1) L (.int (-x) :: st) w out) : Go P M pc L (.int x :: st) w out :=
  go_mv id (fun h hx hc α b r => XS.ineg (g := mkF _ pc (cL α b L) (cV α b (.int x :: st))) h hx rfl (hb hc d) rfl r) g
theorem go_ladd  (d : decode (mB M) pc = .ok (.ladd, 1))  (g : Go P M (pc + 1) L (.long (u + r) :: st) w out) : Go P M pc L (.long r :: .long u :: st) w out :=
  go_mv id (fun h hx hc α b k => XT.ladd (g := mkF _ pc (cL α b L) (cV α b (.long r :: .long u :: st))) h hx rfl (hb hc d) rfl k) g
theorem go_lsub  (d : decode (mB M) pc = .ok (.lsub, 1))  (g : Go P M (pc + 1) L (.long (u - r) :: st) w out) : Go P M pc L (.long r :: .long u :: st) w out :=
  go_mv id (fun h hx hc α b k => XT.lsub (g := mkF _ pc (cL α b L) (cV α b (.long r :: .long u :: st))) h hx rfl (hb hc d) rfl k) g
theorem go_lmul  (d : decode (mB M) pc = .ok (.lmul, 1))  (g : Go P M (pc + 1) L (.long (u * r) :: st) w out) : Go P M pc L (.long r :: .long u :: st) w out :=
  go_mv id (fun h hx hc α b k => XT.lmul (g := mkF _ pc (cL α b L) (cV α b (.long r :: .long u :: st))) h hx rfl (hb hc d) rfl k) g
theorem go_land  (d : decode (mB M) pc = .ok (.land, 1))  (g : Go P M (pc + 1) L (.long (u &&& r) :: st) w out) : Go P M pc L (.long r :: .long u :: st) w out :=
  go_mv id (fun h hx hc α b k => XT.land (g := mkF _ pc (cL α b L) (cV α b (.long r :: .long u :: st))) h hx rfl (hb hc d) rfl k) g
theorem go_lor  (d : decode (mB M) pc = .ok (.lor, 1))  (g : Go P M (pc + 1) L (.long (u ||| r) :: st) w out) : Go P M pc L (.long r :: .long u :: st) w out :=
  go_mv id (fun h hx hc α b k => XT.lor (g := mkF _ pc (cL α b L) (cV α b (.long r :: .long u :: st))) h hx rfl (hb hc d) rfl k) g
theorem go_lxor  (d : decode (mB M) pc = .ok (.lxor, 1))  (g : Go P M (pc + 1) L (.long (u ^^^ r) :: st) w out) : Go P M pc L (.long r :: .long u :: st) w out :=
  go_mv id (fun h hx hc α b k => XT.lxor (g := mkF _ pc (cL α b L) (cV α b (.long r :: .long u :: st))) h hx rfl (hb hc d) rfl k) g
theorem go_lshl  (d : decode (mB M) pc = .ok (.lshl, 1))  (g : Go P M (pc + 1) L (.long (u <<< (y.toInt64 &&& 63)) :: st) w out) : Go P M pc L (.int y :: .long u :: st) w out :=
  go_mv id (fun h hx hc α b r => XT.lshl (g := mkF _ pc (cL α b L) (cV α b (.int y :: .long u :: st))) h hx rfl (hb hc d) rfl r) g
theorem go_lshr  (d : decode (mB M) pc = .ok (.lshr, 1))  (g : Go P M (pc + 1) L (.long (u >>> (y.toInt64 &&& 63)) :: st) w out) : Go P M pc L (.int y :: .long u :: st) w out :=
  go_mv id (fun h hx hc α b r => XT.lshr (g := mkF _ pc (cL α b L) (cV α b (.int y :: .long u :: st))) h hx rfl (hb hc d) rfl r) g
theorem go_lushr  (d : decode (mB M) pc = .ok (.lushr, 1))  (g : Go P M (pc + 1) L (.long (XT.ushrL u y) :: st) w out) : Go P M pc L (.int y :: .long u :: st) w out :=
  go_mv id (fun h hx hc α b r => XT.lushr (g := mkF _ pc (cL α b L) (cV α b (.int y :: .long u :: st))) h hx rfl (hb hc d) rfl r) g
theorem go_lcmp  (d : decode (mB M) pc = .ok (.lcmp, 1))  (g : Go P M (pc + 1) L (.int (XT.cmpL u r) :: st) w out) : Go P M pc L (.long r :: .long u :: st) w out :=
  go_mv id (fun h hx hc α b k => XT.lcmp (g := mkF _ pc (cL α b L) (cV α b (.long r :: .long u :: st))) h hx rfl (hb hc d) rfl k) g
theorem go_i2l  (d : decode (mB M) pc = .ok (.i2l, 1))  (g : Go P M (pc + 1) L (.long x.toInt64 :: st) w out) : Go P M pc L (.int x :: st) w out :=
  go_mv id (fun h hx hc α b r => XT.i2l (g := mkF _ pc (cL α b L) (cV α b (.int x :: st))) h hx rfl (hb hc d) rfl r) g
theorem go_l2i  (d : decode (mB M) pc = .ok (.l2i, 1))  (g : Go P M (pc + 1) L (.int u.toInt32 :: st) w out) : Go P M pc L (.long u :: st) w out :=
  go_mv id (fun h hx hc α b r => XT.l2i (g := mkF _ pc (cL α b L) (cV α b (.long u :: st))) h hx rfl (hb hc d) rfl r) g
theorem go_i2b  (d : decode (mB M) pc = .ok (.i2b, 1))  (g : Go P M (pc + 1) L (.int x.toInt8.toInt32 :: st) w out) : Go P M pc L (.int x :: st) w out :=
  go_mv id (fun h hx hc α b r => XT.i2b (g := mkF _ pc (cL α b L) (cV α b (.int x :: st))) h hx rfl (hb hc d) rfl r) g
theorem go_iinc {k : Nat} {i : Int} (d : decode (mB M) pc = .ok (.iinc k i, 3)) (h1 : L[k]? = some (.val (.int x))) (hv : v = Int32.ofInt i) (hl : storeLocals L.toArray k (.int (x + v)) = some L'.toArray) (g : Go P M (pc + 3) L' (st) w out) : Go P M pc L (st) w out :=
  by subst hv; exact go_mv (fun q => by have := store_size hl; simp at this; omega) (fun h hx hc α b r => XS.iinc (g := mkF _ pc (cL α b L) (cV α b (st))) h hx rfl (hb hc d) (cL_get h1) (storeC hl) r) g
theorem go_goto {o : Int} (d : decode (mB M) pc = .ok (.goto o, 3)) (hp : 0 ≤ (pc : Int) + o ∧ ((pc : Int) + o).toNat = pc') (g : Go P M pc' L (st) w out) : Go P M pc L (st) w out :=
  go_mv id (fun h hx hc α b r => XS.goto (g := mkF _ pc (cL α b L) (cV α b (st))) h hx rfl rfl (hb hc d) hp.1 hp.2 r) g
theorem go_ifY {cd : ClassFile.Cond} {o : Int} (d : decode (mB M) pc = .ok (.ifCond cd o, 3)) (hq : ifCond.holds cd x = true) (hp : 0 ≤ (pc : Int) + o ∧ ((pc : Int) + o).toNat = pc') (g : Go P M pc' L (st) w out) : Go P M pc L (.int x :: st) w out :=
  go_mv id (fun h hx hc α b r => XS.ifYes (g := mkF _ pc (cL α b L) (cV α b (.int x :: st))) h hx rfl rfl (hb hc d) rfl hq hp.1 hp.2 r) g
theorem go_ifN {cd : ClassFile.Cond} {o : Int} (d : decode (mB M) pc = .ok (.ifCond cd o, 3)) (hq : ifCond.holds cd x = false) (g : Go P M (pc + 3) L (st) w out) : Go P M pc L (.int x :: st) w out :=
  go_mv id (fun h hx hc α b r => XS.ifNo (g := mkF _ pc (cL α b L) (cV α b (.int x :: st))) h hx rfl (hb hc d) rfl hq r) g
theorem go_icY {cd : ClassFile.Cond} {o : Int} (d : decode (mB M) pc = .ok (.if_icmp cd o, 3)) (hq : if_icmp.holds cd x y = true) (hp : 0 ≤ (pc : Int) + o ∧ ((pc : Int) + o).toNat = pc') (g : Go P M pc' L (st) w out) : Go P M pc L (.int y :: .int x :: st) w out :=
  go_mv id (fun h hx hc α b r => XS.icmpYes (g := mkF _ pc (cL α b L) (cV α b (.int y :: .int x :: st))) h hx rfl rfl (hb hc d) rfl hq hp.1 hp.2 r) g
theorem go_icN {cd : ClassFile.Cond} {o : Int} (d : decode (mB M) pc = .ok (.if_icmp cd o, 3)) (hq : if_icmp.holds cd x y = false) (g : Go P M (pc + 3) L (st) w out) : Go P M pc L (.int y :: .int x :: st) w out :=
  go_mv id (fun h hx hc α b r => XS.icmpNo (g := mkF _ pc (cL α b L) (cV α b (.int y :: .int x :: st))) h hx rfl (hb hc d) rfl hq r) g
theorem go_nonnull {o : Int} (d : decode (mB M) pc = .ok (.ifnonnull o, 3)) (hp : 0 ≤ (pc : Int) + o ∧ ((pc : Int) + o).toNat = pc') (g : Go P M pc' L st w out) : Go P M pc L (.ref 0 :: st) w out :=
  go_mv id (fun h hx hc α b r => XT.ifnonnullYes (g := mkF _ pc (cL α b L) (cV α b (.ref 0 :: st))) (b := α) h hx rfl rfl (hb hc d) rfl hp.1 hp.2 r) g
theorem go_tswIn {dflt low high : Int} {offs : Array Int} {len : Nat} {o : Int} (d : decode (mB M) pc = .ok (.tableswitch dflt low high offs, len)) (hin : ¬ (x.toInt < low ∨ x.toInt > high)) (hoff : offs[(x.toInt - low).toNat]? = some o) (hp : 0 ≤ (pc : Int) + o ∧ ((pc : Int) + o).toNat = pc') (g : Go P M pc' L st w out) : Go P M pc L (.int x :: st) w out :=
  go_mv id (fun h hx hc α b r => XS.tswIn (g := mkF _ pc (cL α b L) (cV α b (.int x :: st))) h hx rfl rfl (hb hc d) rfl hin hoff hp.1 hp.2 r) g
theorem go_tswOut {dflt low high : Int} {offs : Array Int} {len : Nat} (d : decode (mB M) pc = .ok (.tableswitch dflt low high offs, len)) (hout : x.toInt < low ∨ x.toInt > high) (hp : 0 ≤ (pc : Int) + dflt ∧ ((pc : Int) + dflt).toNat = pc') (g : Go P M pc' L st w out) : Go P M pc L (.int x :: st) w out :=
  go_mv id (fun h hx hc α b r => XS.tswOut (g := mkF _ pc (cL α b L) (cV α b (.int x :: st))) h hx rfl rfl (hb hc d) rfl hout hp.1 hp.2 r) g
/-! ### constants of the pool -/
theorem go_ldc {k : Nat} (d : decode (mB M) pc = .ok (.ldc k, 2)) (hk : Jvm.Cond.constant (mY M).cls k v ∈ P.1) (g : Go P M (pc + 2) L (.int v :: st) w out) : Go P M pc L st w out :=
  go_ch (fun l Z a0 p e R s m args below meth c α b n0 h0 uC uS ok hl T locs cells slots I => ⟨T, locs, cells, slots, I, fun target r => Stand.ldcI (g := mkF m pc (cL α b L) (cV α b st)) I.1 ok.2.2.1 ok.2.2.2.2.1 (mvT ok.2.2.2.1 (ok.1 _ hk)) rfl (hb ok.2.2.2.2.2.1 d) r⟩) g
theorem go_ldcW {k : Nat} (d : decode (mB M) pc = .ok (.ldc_w k, 3)) (hk : Jvm.Cond.constant (mY M).cls k v ∈ P.1) (g : Go P M (pc + 3) L (.int v :: st) w out) : Go P M pc L st w out :=
  go_ch (fun l Z a0 p e R s m args below meth c α b n0 h0 uC uS ok hl T locs cells slots I => ⟨T, locs, cells, slots, I, fun target r => Stand.ldcWI (g := mkF m pc (cL α b L) (cV α b st)) I.1 ok.2.2.1 ok.2.2.2.2.1 (mvT ok.2.2.2.1 (ok.1 _ hk)) rfl (hb ok.2.2.2.2.2.1 d) r⟩) g
theorem go_ldc2 {k : Nat} (d : decode (mB M) pc = .ok (.ldc2_w k, 3)) (hk : Jvm.Cond.constantLong (mY M).cls k u ∈ P.1) (g : Go P M (pc + 3) L (.long u :: st) w out) : Go P M pc L st w out :=
  go_ch (fun l Z a0 p e R s m args below meth c α b n0 h0 uC uS ok hl T locs cells slots I => ⟨T, locs, cells, slots, I, fun target r => Stand.ldc2J (g := mkF m pc (cL α b L) (cV α b st)) I.1 ok.2.2.1 ok.2.2.2.2.1 (mvT ok.2.2.2.1 (ok.1 _ hk)) rfl (hb ok.2.2.2.2.2.1 d) r⟩) g
/-! ### returns -/
theorem go_iret (hT : mT M = some .int) (d : decode (mB M) pc = .ok (.ireturn, 1)) : Go P M pc L (.int x :: st) w (some (.int x), w) := by
  intro hl l Z a0 p e R s m args below meth c α b n0 h0 uC uS ok T locs cells slots I
  exact ⟨T, locs, cells, slots, I, fun fs hv => retOut I.1 ok.2.2.1 (t := .int) (ok.2.2.2.2.2.2.2.1.trans hT) rfl (Or.inl ⟨rfl, Or.inl rfl, x, rfl⟩) (hb ok.2.2.2.2.2.1 d) hv⟩
theorem go_zret (hT : mT M = some .boolean) (d : decode (mB M) pc = .ok (.ireturn, 1)) (hz : v = nar .boolean x) : Go P M pc L (.int x :: st) w (some (.int v), w) := by
  intro hl l Z a0 p e R s m args below meth c α b n0 h0 uC uS ok T locs cells slots I
  subst hz
  exact ⟨T, locs, cells, slots, I, fun fs hv => retN I.1 ok.2.2.1 (t := .boolean) (ok.2.2.2.2.2.2.2.1.trans hT) (Or.inl rfl) (hb ok.2.2.2.2.2.1 d) hv⟩
theorem go_lret (hT : mT M = some .long) (d : decode (mB M) pc = .ok (.lreturn, 1)) : Go P M pc L (.long u :: st) w (some (.long u), w) := by
  intro hl l Z a0 p e R s m args below meth c α b n0 h0 uC uS ok T locs cells slots I
  exact ⟨T, locs, cells, slots, I, fun fs hv => retOut I.1 ok.2.2.1 (t := .long) (ok.2.2.2.2.2.2.2.1.trans hT) rfl (Or.inr (Or.inl ⟨rfl, rfl, u, rfl⟩)) (hb ok.2.2.2.2.2.1 d) hv⟩
theorem go_ret (hT : mT M = none) (d : decode (mB M) pc = .ok (.return_, 1)) : Go P M pc L [] w (none, w) := by
  intro hl l Z a0 p e R s m args below meth c α b n0 h0 uC uS ok T locs cells slots I
  exact ⟨T, locs, cells, slots, I, fun fs hv => I.1.returnOut ok.2.2.1 (ok.2.2.2.2.2.2.2.1.trans hT) (hb ok.2.2.2.2.2.1 d) hv⟩
/-! ### fields -/
variable {o o' : Nat × S} {s : S} {k n : Nat}
theorem rep_one {Z : State} {ci : CI} {α b : Nat} {h : Heap} (F : RepW Z ci α b (none, [o]) h) : Rep1 Z ci h b o := by
  have := F.2 0 o rfl
  simpa using this
theorem rep_mk {Z : State} {ci : CI} {α b : Nat} {h : Heap} (F : Rep1 Z ci h b o) : RepW Z ci α b (none, [o]) h :=
  ⟨fun l hl => (nomatch hl), fun i o1 ho => by
    cases i with
    | zero => cases ho; simpa using F
    | succ i => simp at ho⟩
/-- the entry idx names the scalar field number f; of type ty -/
def FldS (P : PI) (idx f : Nat) (ty : FieldType) : Prop := ∃ nm ds, (cS P.2)[f]? = some (nm, ds, ty) ∧ Jvm.Cond.fieldLink (cN P.2) idx (cN P.2) nm ds ∈ P.1
def FldA (P : PI) (idx q : Nat) (ty : FieldType) : Prop := ∃ nm ds cap, (cA P.2)[q]? = some (nm, ds, ty, cap) ∧ Jvm.Cond.fieldLink (cN P.2) idx (cN P.2) nm ds ∈ P.1
theorem go_getV {idx f : Nat} {ty : FieldType} (F : FldS P idx f ty) (hM : (mY M).cls = cN P.2) (d : decode (mB M) pc = .ok (.getfield idx, 3)) {vv : Value} (hv : vv = scV ty s f) (hr : ∀ α b, con α b vv = vv) (g : Go P M (pc + 3) L (vv :: st) (none, [(k, s)]) out) : Go P M pc L (.ref 1 :: st) (none, [(k, s)]) out :=
  go_ch (fun l Z a0 p e R s1 m args below meth c α b n0 h0 uC uS ok hl T locs cells slots I => by
    obtain ⟨nm, ds, f1, f2⟩ := F
    obtain ⟨hw, fa, hx, hZ, hown, hc, hml, hret, hnm, hR, hn0, htop, hsz⟩ := ok
    obtain ⟨X, Rp, Fm, Nl, hs, u1, u2, c1, c2, hN⟩ := I
    have Fd := (rep_one Rp).2.1 f _ f1
    rw [hM] at hown
    obtain ⟨T', X', e', stp⟩ := getF X hx hZ hown (host := "") (Or.inl (hw _ f2)) Via.refl rfl Fd (g := mkF m pc (cL α b L) (cV α b (.ref 1 :: st))) rfl rfl (hb hc d)
    refine ⟨T', locs, cells, slots, ⟨X', by rw [e']; exact Rp, by rw [e']; exact Fm, Nl, by rw [e']; exact hs, u1, u2, c1, c2, hN⟩, fun target r => stp target ?_⟩
    rw [show cV α b (vv :: st) = con α b vv :: cV α b st from rfl, hr, hv] at r
    exact r) g
theorem go_getI {idx f : Nat} (F : FldS P idx f .int) (hM : (mY M).cls = cN P.2) (d : decode (mB M) pc = .ok (.getfield idx, 3)) (g : Go P M (pc + 3) L (.int (gI s f) :: st) (none, [(k, s)]) out) : Go P M pc L (.ref 1 :: st) (none, [(k, s)]) out :=
  go_getV F hM d rfl (fun _ _ => rfl) g
theorem go_getZ {idx f : Nat} (F : FldS P idx f .boolean) (hM : (mY M).cls = cN P.2) (d : decode (mB M) pc = .ok (.getfield idx, 3)) (g : Go P M (pc + 3) L (.int (gI s f) :: st) (none, [(k, s)]) out) : Go P M pc L (.ref 1 :: st) (none, [(k, s)]) out :=
  go_getV F hM d rfl (fun _ _ => rfl) g
theorem go_getJ {idx f : Nat} (F : FldS P idx f .long) (hM : (mY M).cls = cN P.2) (d : decode (mB M) pc = .ok (.getfield idx, 3)) (g : Go P M (pc + 3) L (.long (gL s f) :: st) (none, [(k, s)]) out) : Go P M pc L (.ref 1 :: st) (none, [(k, s)]) out :=
  go_getV F hM d rfl (fun _ _ => rfl) g
theorem go_getA {idx q : Nat} {ty : FieldType} (F : FldA P idx q ty) (hM : (mY M).cls = cN P.2) (d : decode (mB M) pc = .ok (.getfield idx, 3)) (hq : Nat.blt q k = true) (g : Go P M (pc + 3) L (.ref (q + 2) :: st) (none, [(k, s)]) out) : Go P M pc L (.ref 1 :: st) (none, [(k, s)]) out :=
  go_ch (fun l Z a0 p e R s1 m args below meth c α b n0 h0 uC uS ok hl T locs cells slots I => by
    obtain ⟨nm, ds, cap, f1, f2⟩ := F
    obtain ⟨hw, fa, hx, hZ, hown, hc, hml, hret, hnm, hR, hn0, htop, hsz⟩ := ok
    obtain ⟨X, Rp, Fm, Nl, hs, u1, u2, c1, c2, hN⟩ := I
    have Fd := (rep_one Rp).2.2.1 q _ f1
    rw [if_pos (show q < (k, s).1 by simpa [Nat.blt_eq] using hq)] at Fd
    rw [hM] at hown
    obtain ⟨T', X', e', stp⟩ := getF X hx hZ hown (host := "") (Or.inl (hw _ f2)) Via.refl rfl Fd (g := mkF m pc (cL α b L) (cV α b (.ref 1 :: st))) rfl rfl (hb hc d)
    refine ⟨T', locs, cells, slots, ⟨X', by rw [e']; exact Rp, by rw [e']; exact Fm, Nl, by rw [e']; exact hs, u1, u2, c1, c2, hN⟩, fun target r => stp target ?_⟩
    rw [show cV α b (.ref (q + 2) :: st) = .ref (b + (q + 1)) :: cV α b st from rfl] at r
    rw [show b + 1 + q = b + (q + 1) by omega]
    exact r) g
/-- another scalar of the object takes its value -/
theorem rep_put {Z : State} {a0 : Array Value} {ci : CI} {h h' : Heap} {b : Nat} {s s' : S} {k f : Nat} {nm ds : String} {ty : FieldType} {vv : Value} (fa : Facts Z a0 ci) (F : Rep1 Z ci h b (k, s)) (hf : (cS ci)[f]? = some (nm, ds, ty))
    (Wt : Wr h h' b (Jvm.RoadKit.slotOf Z (cN ci) nm ds) vv) (hv : vv = scV ty s' f) (ho : ∀ f' x, (cS ci)[f']? = some x → f' ≠ f → scV x.2.2 s' f' = scV x.2.2 s f') (ha : gA s' = gA s) (hbb : gB s' = gB s) : Rep1 Z ci h' b (k, s') := by
  obtain ⟨f1, f2, f3, f4⟩ := F
  obtain ⟨-, -, g1, g2, g3, -⟩ := fa
  have lt := get_lt hf
  refine ⟨f1.wr Wt, fun f' x hx => ?_, fun q x hx => ?_, fun q x hx hq => ?_⟩
  · by_cases e : f' = f
    · subst e
      cases hf.symm.trans hx
      show Fld Z h' b (cN ci) nm ds (scV ty s' f')
      rw [← hv]; exact (f2 f' _ hf).same Wt
    · have lt' := get_lt hx
      show Fld Z h' b (cN ci) x.1 x.2.1 (scV x.2.2 s' f')
      rw [ho f' x hx e]
      refine (f2 f' x hx).other Wt (Or.inr ?_)
      refine slot_ne (g1 f' x hx).1 (g1 f _ hf).1 ?_ (g1 f' x hx).2 (g1 f _ hf).2
      intro en
      have n1 : ((cS ci).map (fun x => x.1) ++ (cA ci).map (fun x => x.1))[f']? = some x.1 := by rw [List.getElem?_append_left (by simpa using lt')]; simp [hx]
      have n2 : ((cS ci).map (fun x => x.1) ++ (cA ci).map (fun x => x.1))[f]? = some nm := by rw [List.getElem?_append_left (by simpa using lt)]; simp [hf]
      rw [en] at n1
      obtain ⟨i1, j1⟩ := List.getElem?_eq_some_iff.mp n1
      obtain ⟨i2, j2⟩ := List.getElem?_eq_some_iff.mp n2
      exact e ((List.getElem_inj g3).mp (j1.trans j2.symm))
  · refine (f3 q x hx).other Wt (Or.inr ?_)
    have lt' := get_lt hx
    refine slot_ne (g2 q x hx).1 (g1 f _ hf).1 ?_ (g2 q x hx).2 (g1 f _ hf).2
    intro en
    have n1 : ((cS ci).map (fun x => x.1) ++ (cA ci).map (fun x => x.1))[(cS ci).length + q]? = some x.1 := by rw [List.getElem?_append_right (by simp)]; simp [hx]
    have n2 : ((cS ci).map (fun x => x.1) ++ (cA ci).map (fun x => x.1))[f]? = some nm := by rw [List.getElem?_append_left (by simpa using lt)]; simp [hf]
    rw [en] at n1
    obtain ⟨i1, j1⟩ := List.getElem?_eq_some_iff.mp n1
    obtain ⟨i2, j2⟩ := List.getElem?_eq_some_iff.mp n2
    have := (List.getElem_inj g3).mp (j1.trans j2.symm)
    omega
  · obtain ⟨c, A, e⟩ := f4 q x hx hq
    refine ⟨c, A.other Wt (nq (by omega)), e.trans ?_⟩
    show (arV x.2.2.1 s q).toArray = (arV x.2.2.1 s' q).toArray
    unfold arV
    split <;> simp [ha, hbb]
theorem go_putV {idx f : Nat} {ty : FieldType} {vv : Value} {s' : S} (F : FldS P idx f ty) (hM : (mY M).cls = cN P.2)
    (hlays : ∀ nm ds, (cS P.2)[f]? = some (nm, ds, ty) → Jvm.Cond.lays (cN P.2) (cN P.2) nm ds ∈ P.1 ∨ (Jvm.Cond.laysFinal (cN P.2) (cN P.2) nm ds ∈ P.1 ∧ (mY M).name = "<init>"))
    (hpos : 0 < mN M) (hr : ∀ α b, con α b vv = vv) (hn : narrow ty vv = vv) (hfi : fits ty vv = true) (hv : vv = scV ty s' f) (ho : ∀ f' x, (cS P.2)[f']? = some x → f' ≠ f → scV x.2.2 s' f' = scV x.2.2 s f') (ha : gA s' = gA s) (hbb : gB s' = gB s)
    (d : decode (mB M) pc = .ok (.putfield idx, 3)) (g : Go P M (pc + 3) L st (none, [(k, s')]) out) : Go P M pc L (vv :: .ref 1 :: st) (none, [(k, s)]) out :=
  go_ch (fun l Z a0 p e R s1 m args below meth c α b n0 h0 uC uS ok hl T locs cells slots I => by
    obtain ⟨nm, ds, f1, f2⟩ := F
    obtain ⟨hw, fa, hx, hZ, hown, hc, hml, hret, hnm, hR, hn0, htop, hsz⟩ := ok
    obtain ⟨X, Rp, Fm, Nl, hs, u1, u2, c1, c2, hN⟩ := I
    have Rp1 := rep_one Rp
    have Fd := Rp1.2.1 f _ f1
    rw [hM] at hown
    obtain ⟨T', h', X', e', Wt, stp⟩ := putF X hx hZ hown (host := "") (Or.inl (hw _ f2)) Via.refl rfl Fd Rp1.1 ((hlays nm ds f1).imp (fun q => hw _ q) (fun q => ⟨hw _ q.1, rfl, hnm.trans q.2⟩)) fa.1 (fa.2.2.1 f _ f1).2 hn hfi (g := mkF m pc (cL α b L) (vv :: .ref b :: cV α b st)) rfl rfl (hb hc d)
    refine ⟨T', _, cells, slots, ⟨X', rep_mk (by rw [e']; exact rep_put fa Rp1 f1 Wt hv ho ha hbb), by rw [e']; exact Fm.wr Wt (Nat.le_refl _) (by have := Nat.mul_le_mul_left (cK P.2 + 1) hpos; omega), Fr.snoc X' Nl hn0, by rw [e', Wt.size]; exact hs, u1, u2, c1, c2, hN⟩, fun target r => ?_⟩
    rw [show cV α b (vv :: .ref 1 :: st) = con α b vv :: .ref b :: cV α b st from rfl, hr]
    exact stp target r) g
theorem scV_sI (s : S) (f : Nat) (x : Int32) (ty : FieldType) (f' : Nat) (h : f' ≠ f) : scV ty (sI s f x) f' = scV ty s f' := by
  unfold scV; split <;> simp [gI_sI, gL_sI, h]
theorem scV_sL (s : S) (f : Nat) (x : Int64) (ty : FieldType) (f' : Nat) (h : f' ≠ f) : scV ty (sL s f x) f' = scV ty s f' := by
  unfold scV; split <;> simp [gI_sL, gL_sL, h]
/-- the word that lets the field be written -/
def Wrt (P : PI) (M : Meth) (f : Nat) : Prop := ∃ nm ds ty, (cS P.2)[f]? = some (nm, ds, ty) ∧ (Jvm.Cond.lays (cN P.2) (cN P.2) nm ds ∈ P.1 ∨ (Jvm.Cond.laysFinal (cN P.2) (cN P.2) nm ds ∈ P.1 ∧ (mY M).name = "<init>"))
theorem Wrt.use {f : Nat} {ty : FieldType} (h : Wrt P M f) : ∀ nm ds, (cS P.2)[f]? = some (nm, ds, ty) → Jvm.Cond.lays (cN P.2) (cN P.2) nm ds ∈ P.1 ∨ (Jvm.Cond.laysFinal (cN P.2) (cN P.2) nm ds ∈ P.1 ∧ (mY M).name = "<init>") := by
  obtain ⟨nm, ds, ty', h1, h2⟩ := h
  intro nm' ds' h3
  cases h1.symm.trans h3
  exact h2
theorem go_putI {idx f : Nat} (F : FldS P idx f .int) (hM : (mY M).cls = cN P.2) (hl : Wrt P M f) (hp : 0 < mN M) (d : decode (mB M) pc = .ok (.putfield idx, 3)) (g : Go P M (pc + 3) L st (none, [(k, sI s f x)]) out) : Go P M pc L (.int x :: .ref 1 :: st) (none, [(k, s)]) out :=
  go_putV F hM hl.use hp (fun _ _ => rfl) rfl rfl (by simp [scV, gI_sI]) (fun f' y _ h => scV_sI s f x _ f' h) rfl rfl d g
theorem go_putZ {idx f : Nat} (F : FldS P idx f .boolean) (hM : (mY M).cls = cN P.2) (hl : Wrt P M f) (hp : 0 < mN M) (hz : x = 0 ∨ x = 1) (d : decode (mB M) pc = .ok (.putfield idx, 3)) (g : Go P M (pc + 3) L st (none, [(k, sI s f x)]) out) : Go P M pc L (.int x :: .ref 1 :: st) (none, [(k, s)]) out :=
  go_putV F hM hl.use hp (fun _ _ => rfl) (by rcases hz with rfl | rfl <;> rfl) (by rcases hz with rfl | rfl <;> rfl) (by simp [scV, gI_sI]) (fun f' y _ h => scV_sI s f x _ f' h) rfl rfl d g
theorem go_putJ {idx f : Nat} (F : FldS P idx f .long) (hM : (mY M).cls = cN P.2) (hl : Wrt P M f) (hp : 0 < mN M) (d : decode (mB M) pc = .ok (.putfield idx, 3)) (g : Go P M (pc + 3) L st (none, [(k, sL s f u)]) out) : Go P M pc L (.long u :: .ref 1 :: st) (none, [(k, s)]) out :=
  go_putV F hM hl.use hp (fun _ _ => rfl) rfl rfl (by simp [scV, gL_sL]) (fun f' y _ h => scV_sL s f u _ f' h) rfl rfl d g
/-! ### arrays -/
theorem ix_some {A : Type} {l : List A} {j : Int32} {x : A} (h : ix l j = some x) : ¬ j < 0 ∧ l[j.toNatClampNeg]? = some x := by
  unfold ix at h; split at h
  · cases h
  · rename_i q; exact ⟨q, h⟩
theorem st_some {A : Type} {l l' : List A} {j : Int32} {x : A} (h : Jvm.AM.st l j x = some l') : ¬ j < 0 ∧ j.toNatClampNeg < l.length ∧ l' = l.set j.toNatClampNeg x := by
  unfold Jvm.AM.st at h; split at h
  · cases h
  · rename_i q; split at h
    · rename_i q2; cases h; exact ⟨q, q2, rfl⟩
    · cases h
theorem ar_in {c : Cell} {vs : List Value} {j : Int32} {vv : Value} (e : c.slots = vs.toArray) (h1 : ¬ j < 0) (h2 : vs[j.toNatClampNeg]? = some vv) : ¬ (j < 0 ∨ c.slots.size ≤ j.toNatClampNeg) ∧ c.slots[j.toNatClampNeg]? = some vv := by
  have := get_lt h2
  refine ⟨fun q => ?_, by rw [e]; simpa using h2⟩
  rcases q with q | q
  · exact h1 q
  · rw [e] at q; simp at q; omega
theorem go_iaload {q : Nat} {j : Int32} {nm ds : String} {cap : Nat} (ha : (cA P.2)[q]? = some (nm, ds, .int, cap)) (hq : Nat.blt q k = true) (hx : ix (gA s q) j = some v) (d : decode (mB M) pc = .ok (.iaload, 1)) (g : Go P M (pc + 1) L (.int v :: st) (none, [(k, s)]) out) : Go P M pc L (.int j :: .ref (q + 2) :: st) (none, [(k, s)]) out :=
  go_ch (fun l Z a0 p e R s1 m args below meth c α b n0 h0 uC uS ok hl T locs cells slots I => by
    obtain ⟨cl, A, ec⟩ := (rep_one I.2.1).2.2.2 q _ ha (by simpa [Nat.blt_eq] using hq)
    obtain ⟨h1, h2⟩ := ix_some hx
    obtain ⟨h3, h4⟩ := ar_in ec h1 (vv := .int v) (by simp [arV, h2])
    refine ⟨T, locs, cells, slots, I, fun target r => ?_⟩
    refine I.1.iaload ok.2.2.1 (j := j) (v := .int v) A.1 (State.isArrayOf_alike ok.2.2.2.1.alike A.2.1) A.2.2 h3 h4 (g := mkF m pc (cL α b L) (.int j :: .ref (b + 1 + q) :: cV α b st)) rfl rfl (hb ok.2.2.2.2.2.1 d) _ r |> fun t => ?_
    rw [show cV α b (.int j :: .ref (q + 2) :: st) = .int j :: .ref (b + (q + 1)) :: cV α b st from rfl, show b + (q + 1) = b + 1 + q by omega]
    exact t) g
theorem go_laload {q : Nat} {j : Int32} {nm ds : String} {cap : Nat} (ha : (cA P.2)[q]? = some (nm, ds, .long, cap)) (hq : Nat.blt q k = true) (hx : ix (gB s q) j = some u) (d : decode (mB M) pc = .ok (.laload, 1)) (g : Go P M (pc + 1) L (.long u :: st) (none, [(k, s)]) out) : Go P M pc L (.int j :: .ref (q + 2) :: st) (none, [(k, s)]) out :=
  go_ch (fun l Z a0 p e R s1 m args below meth c α b n0 h0 uC uS ok hl T locs cells slots I => by
    obtain ⟨cl, A, ec⟩ := (rep_one I.2.1).2.2.2 q _ ha (by simpa [Nat.blt_eq] using hq)
    obtain ⟨h1, h2⟩ := ix_some hx
    obtain ⟨h3, h4⟩ := ar_in ec h1 (vv := .long u) (by simp [arV, h2])
    refine ⟨T, locs, cells, slots, I, fun target r => ?_⟩
    refine I.1.laload ok.2.2.1 (j := j) (v := .long u) A.1 (State.isArrayOf_alike ok.2.2.2.1.alike A.2.1) A.2.2 h3 h4 (g := mkF m pc (cL α b L) (.int j :: .ref (b + 1 + q) :: cV α b st)) rfl rfl (hb ok.2.2.2.2.2.1 d) _ r |> fun t => ?_
    rw [show cV α b (.int j :: .ref (q + 2) :: st) = .int j :: .ref (b + (q + 1)) :: cV α b st from rfl, show b + (q + 1) = b + 1 + q by omega]
    exact t) g
theorem go_baload {q : Nat} {j : Int32} {nm ds : String} {ty : FieldType} {cap : Nat} (ha : (cA P.2)[q]? = some (nm, ds, ty, cap)) (hty : ty = .boolean ∨ ty = .byte) (hq : Nat.blt q k = true) (hx : ix (gA s q) j = some v) (d : decode (mB M) pc = .ok (.baload, 1)) (g : Go P M (pc + 1) L (.int v :: st) (none, [(k, s)]) out) : Go P M pc L (.int j :: .ref (q + 2) :: st) (none, [(k, s)]) out :=
  go_ch (fun l Z a0 p e R s1 m args below meth c α b n0 h0 uC uS ok hl T locs cells slots I => by
    obtain ⟨cl, A, ec⟩ := (rep_one I.2.1).2.2.2 q _ ha (by simpa [Nat.blt_eq] using hq)
    obtain ⟨h1, h2⟩ := ix_some hx
    refine ⟨T, locs, cells, slots, I, fun target r => ?_⟩
    rw [show cV α b (.int j :: .ref (q + 2) :: st) = .int j :: .ref (b + (q + 1)) :: cV α b st from rfl, show b + (q + 1) = b + 1 + q by omega]
    rcases hty with rfl | rfl
    · obtain ⟨h3, h4⟩ := ar_in ec h1 (vv := .int v) (by simp [arV, h2])
      exact I.1.baloadBooleans ok.2.2.1 (j := j) (v := .int v) A.1 (State.isArrayOf_alike ok.2.2.2.1.alike A.2.1) A.2.2 h3 h4 (g := mkF m pc (cL α b L) (.int j :: .ref (b + 1 + q) :: cV α b st)) rfl rfl (hb ok.2.2.2.2.2.1 d) _ r
    · obtain ⟨h3, h4⟩ := ar_in ec h1 (vv := .int v) (by simp [arV, h2])
      exact I.1.baloadBytes ok.2.2.1 (j := j) (v := .int v) A.1 (State.isArrayOf_alike ok.2.2.2.1.alike A.2.1) A.2.2 h3 h4 (g := mkF m pc (cL α b L) (.int j :: .ref (b + 1 + q) :: cV α b st)) rfl rfl (hb ok.2.2.2.2.2.1 d) _ r) g
theorem go_alen {q : Nat} {nm ds : String} {ty : FieldType} {cap : Nat} (ha : (cA P.2)[q]? = some (nm, ds, ty, cap)) (hty : ty ≠ .long) (hq : Nat.blt q k = true) (d : decode (mB M) pc = .ok (.arraylength, 1)) (g : Go P M (pc + 1) L (.int (gA s q).length.toInt32 :: st) (none, [(k, s)]) out) : Go P M pc L (.ref (q + 2) :: st) (none, [(k, s)]) out :=
  go_ch (fun l Z a0 p e R s1 m args below meth c α b n0 h0 uC uS ok hl T locs cells slots I => by
    obtain ⟨cl, A, ec⟩ := (rep_one I.2.1).2.2.2 q _ ha (by simpa [Nat.blt_eq] using hq)
    refine ⟨T, locs, cells, slots, I, fun target r => ?_⟩
    have e1 : cl.slots.size = (gA s q).length := by rw [ec]; cases ty <;> simp [arV] at hty ⊢
    rw [show cV α b (.ref (q + 2) :: st) = .ref (b + (q + 1)) :: cV α b st from rfl, show b + (q + 1) = b + 1 + q by omega]
    refine I.1.arraylength ok.2.2.1 (cell := cl) A.1 (State.isArrayOf_alike ok.2.2.2.1.alike A.2.1) (g := mkF m pc (cL α b L) (.ref (b + 1 + q) :: cV α b st)) rfl rfl (hb ok.2.2.2.2.2.1 d) _ ?_
    rw [e1]; exact r) g
theorem go_sload {l0 : List Int32} {os : List (Nat × S)} {j : Int32} (hx : ix l0 j = some v) (d : decode (mB M) pc = .ok (.iaload, 1)) (g : Go P M (pc + 1) L (.int v :: st) (some l0, os) out) : Go P M pc L (.int j :: .ref 0 :: st) (some l0, os) out :=
  go_ch (fun l Z a0 p e R s1 m args below meth c α b n0 h0 uC uS ok hl T locs cells slots I => by
    obtain ⟨cl, A, ec⟩ := (I.2.1.1 l0 rfl).1
    obtain ⟨h1, h2⟩ := ix_some hx
    obtain ⟨h3, h4⟩ := ar_in ec h1 (vv := .int v) (by simp [h2])
    exact ⟨T, locs, cells, slots, I, fun target r => I.1.iaload ok.2.2.1 (j := j) (v := .int v) A.1 (State.isArrayOf_alike ok.2.2.2.1.alike A.2.1) A.2.2 h3 h4 (g := mkF m pc (cL α b L) (cV α b (.int j :: .ref 0 :: st))) rfl rfl (hb ok.2.2.2.2.2.1 d) _ r⟩) g
theorem go_slen {l0 : List Int32} {os : List (Nat × S)} (d : decode (mB M) pc = .ok (.arraylength, 1)) (g : Go P M (pc + 1) L (.int l0.length.toInt32 :: st) (some l0, os) out) : Go P M pc L (.ref 0 :: st) (some l0, os) out :=
  go_ch (fun l Z a0 p e R s1 m args below meth c α b n0 h0 uC uS ok hl T locs cells slots I => by
    obtain ⟨cl, A, ec⟩ := (I.2.1.1 l0 rfl).1
    refine ⟨T, locs, cells, slots, I, fun target r => ?_⟩
    have e1 : cl.slots.size = l0.length := by rw [ec]; simp
    refine I.1.arraylength ok.2.2.1 (cell := cl) A.1 (State.isArrayOf_alike ok.2.2.2.1.alike A.2.1) (g := mkF m pc (cL α b L) (cV α b (.ref 0 :: st))) rfl rfl (hb ok.2.2.2.2.2.1 d) _ ?_
    rw [e1]; exact r) g
/-- a component of an array of the object takes its value -/
theorem rep_store {Z : State} {ci : CI} {h h' : Heap} {b : Nat} {s s' : S} {k q i : Nat} {nm ds : String} {ty : FieldType} {cap : Nat} {vv : Value} (F : Rep1 Z ci h b (k, s)) (hf : (cA ci)[q]? = some (nm, ds, ty, cap)) (hq : q < k)
    (Wt : Wr h h' (b + 1 + q) i vv) (hi : i < (arV ty s q).length) (hv : arV ty s' q = (arV ty s q).set i vv) (ho : ∀ q' x, (cA ci)[q']? = some x → q' ≠ q → arV x.2.2.1 s' q' = arV x.2.2.1 s q') (ha : gI s' = gI s) (hbb : gL s' = gL s) : Rep1 Z ci h' b (k, s') := by
  obtain ⟨f1, f2, f3, f4⟩ := F
  refine ⟨f1.wr Wt, fun f x hx => ?_, fun q' x hx => (f3 q' x hx).other Wt (Or.inl (nq (by omega))), fun q' x hx hq' => ?_⟩
  · have e : scV x.2.2 s' f = scV x.2.2 s f := by unfold scV; split <;> simp [ha, hbb]
    show Fld Z h' b (cN ci) x.1 x.2.1 (scV x.2.2 s' f)
    rw [e]
    exact (f2 f x hx).other Wt (Or.inl (nq (by omega)))
  · by_cases e : q' = q
    · subst e
      cases hf.symm.trans hx
      obtain ⟨c, A, ec⟩ := f4 q' _ hf hq
      refine ⟨_, A.same Wt, ?_⟩
      show (c.setSlot i vv).slots = (arV ty s' q').toArray
      rw [hv]
      simp only [Cell.setSlot, ec]
      simp
    · obtain ⟨c, A, ec⟩ := f4 q' x hx hq'
      refine ⟨c, A.other Wt (nq (by omega)), ec.trans ?_⟩
      rw [ho q' x hx e]
theorem arV_sA (s : S) (q : Nat) (l : List Int32) (ty : FieldType) (q' : Nat) (h : q' ≠ q) : arV ty (sA s q l) q' = arV ty s q' := by
  unfold arV; split <;> simp [gA_sA, gB_sA, h]
theorem arV_sB (s : S) (q : Nat) (l : List Int64) (ty : FieldType) (q' : Nat) (h : q' ≠ q) : arV ty (sB s q l) q' = arV ty s q' := by
  unfold arV; split <;> simp [gA_sB, gB_sB, h]
theorem in_of {c : Cell} {vs : List Value} {j : Int32} (e : c.slots = vs.toArray) (h1 : ¬ j < 0) (h2 : j.toNatClampNeg < vs.length) : ¬ (j < 0 ∨ c.slots.size ≤ j.toNatClampNeg) := fun q => by
  rcases q with q | q
  · exact h1 q
  · rw [e] at q; simp at q; omega
theorem go_iastore {q : Nat} {j : Int32} {nm ds : String} {cap : Nat} {l' : List Int32} (ha : (cA P.2)[q]? = some (nm, ds, .int, cap)) (hq : Nat.blt q k = true) (hp : 0 < mN M) (hx : Jvm.AM.st (gA s q) j x = some l') (d : decode (mB M) pc = .ok (.iastore, 1)) (g : Go P M (pc + 1) L st (none, [(k, sA s q l')]) out) : Go P M pc L (.int x :: .int j :: .ref (q + 2) :: st) (none, [(k, s)]) out :=
  go_ch (fun l Z a0 p e R s1 m args below meth c α b n0 h0 uC uS ok hl T locs cells slots I => by
    have hq' : q < k := by simpa [Nat.blt_eq] using hq
    have hqK := get_lt ha
    obtain ⟨X, Rp, Fm, Nl, hs, u1, u2, c1, c2, hN⟩ := I
    obtain ⟨cl, A, ec⟩ := (rep_one Rp).2.2.2 q _ ha hq'
    obtain ⟨h1, h2, rfl⟩ := st_some hx
    have hin := in_of ec h1 (by simpa [arV] using h2)
    obtain ⟨T', h', X', e', Wt, stp⟩ := stI X ok.2.2.1 ok.2.2.2.1 rfl A (x := x) hin (g := mkF m pc (cL α b L) (.int x :: .int j :: .ref (b + 1 + q) :: cV α b st)) rfl rfl (hb ok.2.2.2.2.2.1 d)
    refine ⟨T', _, cells, slots, ⟨X', rep_mk (by rw [e']; exact rep_store (rep_one Rp) ha hq' Wt (by simpa [arV] using h2) (by simp [arV, gA_sA, List.map_set]) (fun q' y _ h => arV_sA s q _ _ q' h) rfl rfl), by rw [e']; exact Fm.wr Wt (by omega) (by have := Nat.mul_le_mul_left (cK P.2 + 1) hp; simp only [cK] at *; omega), Fr.snoc X' Nl (by have := ok.2.2.2.2.2.2.2.2.2.2.1; omega), by rw [e', Wt.size]; exact hs, u1, u2, c1, c2, hN⟩, fun target r => ?_⟩
    rw [show cV α b (.int x :: .int j :: .ref (q + 2) :: st) = .int x :: .int j :: .ref (b + (q + 1)) :: cV α b st from rfl, show b + (q + 1) = b + 1 + q by omega]
    exact stp target r) g
theorem go_lastore {q : Nat} {j : Int32} {nm ds : String} {cap : Nat} {l' : List Int64} (ha : (cA P.2)[q]? = some (nm, ds, .long, cap)) (hq : Nat.blt q k = true) (hp : 0 < mN M) (hx : Jvm.AM.st (gB s q) j u = some l') (d : decode (mB M) pc = .ok (.lastore, 1)) (g : Go P M (pc + 1) L st (none, [(k, sB s q l')]) out) : Go P M pc L (.long u :: .int j :: .ref (q + 2) :: st) (none, [(k, s)]) out :=
  go_ch (fun l Z a0 p e R s1 m args below meth c α b n0 h0 uC uS ok hl T locs cells slots I => by
    have hq' : q < k := by simpa [Nat.blt_eq] using hq
    have hqK := get_lt ha
    obtain ⟨X, Rp, Fm, Nl, hs, u1, u2, c1, c2, hN⟩ := I
    obtain ⟨cl, A, ec⟩ := (rep_one Rp).2.2.2 q _ ha hq'
    obtain ⟨h1, h2, rfl⟩ := st_some hx
    have hin := in_of ec h1 (by simpa [arV] using h2)
    obtain ⟨T', h', X', e', Wt, stp⟩ := stJ X ok.2.2.1 ok.2.2.2.1 rfl A (x := u) hin (g := mkF m pc (cL α b L) (.long u :: .int j :: .ref (b + 1 + q) :: cV α b st)) rfl rfl (hb ok.2.2.2.2.2.1 d)
    refine ⟨T', _, cells, slots, ⟨X', rep_mk (by rw [e']; exact rep_store (rep_one Rp) ha hq' Wt (by simpa [arV] using h2) (by simp [arV, gB_sB, List.map_set]) (fun q' y _ h => arV_sB s q _ _ q' h) rfl rfl), by rw [e']; exact Fm.wr Wt (by omega) (by have := Nat.mul_le_mul_left (cK P.2 + 1) hp; simp only [cK] at *; omega), Fr.snoc X' Nl (by have := ok.2.2.2.2.2.2.2.2.2.2.1; omega), by rw [e', Wt.size]; exact hs, u1, u2, c1, c2, hN⟩, fun target r => ?_⟩
    rw [show cV α b (.long u :: .int j :: .ref (q + 2) :: st) = .long u :: .int j :: .ref (b + (q + 1)) :: cV α b st from rfl, show b + (q + 1) = b + 1 + q by omega]
    exact stp target r) g
theorem go_bastore {q : Nat} {j : Int32} {nm ds : String} {ty : FieldType} {cap : Nat} {l' : List Int32} (ha : (cA P.2)[q]? = some (nm, ds, ty, cap)) (hty : ty = .boolean ∨ ty = .byte) (hq : Nat.blt q k = true) (hp : 0 < mN M) (hv : v = nar ty x) (hx : Jvm.AM.st (gA s q) j v = some l') (d : decode (mB M) pc = .ok (.bastore, 1)) (g : Go P M (pc + 1) L st (none, [(k, sA s q l')]) out) : Go P M pc L (.int x :: .int j :: .ref (q + 2) :: st) (none, [(k, s)]) out :=
  go_ch (fun l Z a0 p e R s1 m args below meth c α b n0 h0 uC uS ok hl T locs cells slots I => by
    have hq' : q < k := by simpa [Nat.blt_eq] using hq
    have hqK := get_lt ha
    obtain ⟨X, Rp, Fm, Nl, hs, u1, u2, c1, c2, hN⟩ := I
    obtain ⟨cl, A, ec⟩ := (rep_one Rp).2.2.2 q _ ha hq'
    obtain ⟨h1, h2, rfl⟩ := st_some hx
    subst hv
    have hlen : j.toNatClampNeg < (arV ty s q).length := by rcases hty with rfl | rfl <;> simpa [arV] using h2
    have hset : arV ty (sA s q ((gA s q).set j.toNatClampNeg (nar ty x))) q = (arV ty s q).set j.toNatClampNeg (.int (nar ty x)) := by rcases hty with rfl | rfl <;> simp [arV, gA_sA, List.map_set]
    have hin := in_of ec h1 hlen
    obtain ⟨T', h', X', e', Wt, stp⟩ : ∃ T' h', Stand p l e R s1 m args below meth c T' (locs ++ [⟨b + 1 + q, j.toNatClampNeg⟩]) cells slots ∧ T'.heap = h' ∧ Wr T.heap h' (b + 1 + q) j.toNatClampNeg (.int (nar ty x)) ∧ ∀ target, Steps p.tables e below (T'.setTop (mkF m (pc + 1) (cL α b L) (cV α b st))) target → Steps p.tables e below (T.setTop (mkF m pc (cL α b L) (.int x :: .int j :: .ref (b + 1 + q) :: cV α b st))) target := by
      rcases hty with rfl | rfl
      · exact stZ X ok.2.2.1 ok.2.2.2.1 rfl A (x := x) hin (g := mkF m pc (cL α b L) (.int x :: .int j :: .ref (b + 1 + q) :: cV α b st)) rfl rfl (hb ok.2.2.2.2.2.1 d)
      · exact stB X ok.2.2.1 ok.2.2.2.1 rfl A (x := x) hin (g := mkF m pc (cL α b L) (.int x :: .int j :: .ref (b + 1 + q) :: cV α b st)) rfl rfl (hb ok.2.2.2.2.2.1 d)
    refine ⟨T', _, cells, slots, ⟨X', rep_mk (by rw [e']; exact rep_store (rep_one Rp) ha hq' Wt hlen hset (fun q' y _ h => arV_sA s q _ _ q' h) rfl rfl), by rw [e']; exact Fm.wr Wt (by omega) (by have := Nat.mul_le_mul_left (cK P.2 + 1) hp; simp only [cK] at *; omega), Fr.snoc X' Nl (by have := ok.2.2.2.2.2.2.2.2.2.2.1; omega), by rw [e', Wt.size]; exact hs, u1, u2, c1, c2, hN⟩, fun target r => ?_⟩
    rw [show cV α b (.int x :: .int j :: .ref (q + 2) :: st) = .int x :: .int j :: .ref (b + (q + 1)) :: cV α b st from rfl, show b + (q + 1) = b + 1 + q by omega]
    exact stp target r) g
/-! ## 5. A method as a whole; calls -/
def Call (P : PI) (M : Meth) (as : List Value) (w : W) (out : Option Value × W) : Prop :=
  ∀ (l : Launch) (Z : State) (a0 : Array Value) (ws : List Jvm.Cond) (α b n0 : Nat) (h0 : Heap), (∀ d ∈ P.1, d.before a0 Z = true) → Facts Z a0 P.2 → n0 ≤ b → RepW Z P.2 α b w h0 → w.2.length ≤ mN M → (mTop M = true → h0.size = b + usedC w ∧ usedC w = mUC M ∧ usedS P.2 w = mUS M) →
    MetFree l (mY M) (head1 (Jvm.Cond.code (mY M) (mB M) (mL M) (mT M) :: ws) (mR M)) (fun a U => a = (cV α b as).toArray ∧ Z.Warmed39 U.vm ∧ U.heap = h0) (fun _ _ _ _ _ => True)
      (fun _ U o U' => ∃ v L, o = .returned v ∧ (v = out.1.map (con α b) ∧ Fr n0 L ∧ RepW Z P.2 α b out.2 U'.heap ∧ Frm b (b + (cK P.2 + 1) * mN M) h0 U'.heap ∧ ∃ k, U'.heap.size = h0.size + k ∧ k + usedC w = usedC out.2) ∧ FrameEnd U o U' L (mR M).cells (mR M).slots)
theorem call_of_go {as : List Value} (hpl : plainName (mY M).cls = true) (hlen : (entryL as (mL M)).length = mL M) (hret : mT M = none → out.1 = none) (g : Go P M 0 (entryL as (mL M)) [] w out) : Call P M as w out := by
  intro l Z a0 ws α b n0 h0 hw fa hn0 Rp hN htop
  refine MetFree.of_bodySF (plainFor_of_name hpl) hisR ?_
  intro p e s m args below meth c s₁ Bd hml0 hP hK
  obtain ⟨rfl, hZ, hh⟩ := hP
  have X0 : Stand p l e (mR M) s m (cV α b as).toArray below meth c s₁ [] 0 0 := Stand.of_body Bd
  have e0 : s₁.heap = h0 := by rw [← hh, Bd.state]; rfl
  obtain ⟨T', L', c', n', I', fin⟩ := g hlen l Z a0 p e (mR M) s m (cV α b as).toArray below meth c α b n0 h0 (usedC w) (usedS P.2 w) ⟨hw, fa, Bd.exec, hZ, findClass_of_methodNamed Bd.named, Bd.bytes, hml0, Bd.returns, (name_of_methodNamed Bd.named Bd.method).1, rfl, hn0, htop, by rw [hh]⟩ s₁ [] 0 0 ⟨X0, by rw [e0]; exact Rp, by rw [e0]; exact Frm.refl _ _ _, Fr.nil _, by rw [e0]; rfl, by simp, by simp, Nat.zero_le _, Nat.zero_le _, hN⟩
  obtain ⟨X', Rp', Fm', Nl', hs', u1', u2', c1', c2', hN'⟩ := I'
  obtain ⟨fs, hr, hrun, hended, hW, hsame⟩ := X'.leave (v := out.1.map (con α b)) (fun h => by rw [Bd.returns] at h; rw [hret h]; rfl)
  refine ⟨_, _, ?_, hrun, hended, _, _, rfl, ⟨rfl, Nl', Rp', Fm', c', hs', u1'⟩, ⟨_, rfl⟩, hW, hsame.mono c1' c2'⟩
  have q := fin fs hr
  rw [← entry_locals] at q
  exact q
def nr : Value → Bool
  | .ref _ => false
  | _ => true
theorem con_nr {α b : Nat} {v : Value} (h : nr v = true) : con α b v = v := by
  cases v <;> first | rfl | cases h
theorem cV_nr {α b : Nat} {l : List Value} (h : l.all nr = true) : cV α b l = l := by
  have : ∀ x ∈ l, con α b x = x := fun x hx => con_nr (List.all_eq_true.mp h x hx)
  unfold cV
  exact (List.map_congr_left this).trans (List.map_id _)
theorem rep_obj {Z : State} {ci : CI} {α b : Nat} {h : Heap} {i : Nat} (F : RepW Z ci α b w h) (ho : w.2[i]? = some o) : RepW Z ci 0 (b + (cK ci + 1) * i) (none, [o]) h := rep_mk (F.2 i o ho)
theorem rep_back {Z : State} {ci : CI} {α α' b : Nat} {h h' : Heap} {i : Nat} (F : RepW Z ci α b w h) (ho : w.2[i]? = some o) (G : RepW Z ci α' (b + (cK ci + 1) * i) (none, [o']) h') (Fm : Frm (b + (cK ci + 1) * i) (b + (cK ci + 1) * i + (cK ci + 1) * 1) h h') : RepW Z ci α b (w.1, w.2.set i o') h' := by
  refine ⟨fun l hl => ⟨((F.1 l hl).1).frm fun c q => Fm _ _ q (Or.inl ?_), (F.1 l hl).2⟩, fun j oj hj => ?_⟩
  · have := (F.1 l hl).2; exact Nat.lt_of_lt_of_le this (Nat.le_add_right _ _)
  · by_cases e : j = i
    · subst e
      rw [show (w.1, w.2.set j o').2 = w.2.set j o' from rfl, List.getElem?_set_self (get_lt ho)] at hj
      cases hj
      exact rep_one G
    · rw [show (w.1, w.2.set i o').2 = w.2.set i o' from rfl, List.getElem?_set_ne (Ne.symm e)] at hj
      refine (F.2 j oj hj).frm fun x c q1 q2 q3 => Fm _ _ q3 ?_
      rcases Nat.lt_or_gt_of_ne e with q | q
      · have := Nat.mul_le_mul_left (cK ci + 1) q
        rw [Nat.mul_succ] at this; omega
      · have := Nat.mul_le_mul_left (cK ci + 1) q
        rw [Nat.mul_succ] at this; omega
theorem sum_set {A : Type} (f : A → Nat) {a a' : A} : ∀ {l : List A} {i : Nat}, l[i]? = some a → ((l.set i a').map f).sum + f a = (l.map f).sum + f a'
  | [], i, h => by simp at h
  | b :: r, 0, h => by simp at h; subst h; simp; omega
  | b :: r, i + 1, h => by
    simp only [List.getElem?_cons_succ] at h
    have := sum_set f (a' := a') h
    simp only [List.set_cons_succ, List.map_cons, List.sum_cons]; omega
def CQ (ci : CI) (Z : State) (α b n0 : Nat) (h0 : Heap) (N : Nat) (w : W) (out : Option Value × W) (v : Option Value) (hp : Heap) (L : List Loc) : Prop := v = out.1.map (con α b) ∧ Fr n0 L ∧ RepW Z ci α b out.2 hp ∧ Frm b (b + (cK ci + 1) * N) h0 hp ∧ ∃ k, hp.size = h0.size + k ∧ k + usedC w = usedC out.2
/-- what a callee that makes nothing must fit into -/
def Small (M M' : Meth) (rest : List Value) : Prop := (mR M').cells = 0 ∧ (mR M').slots = 0 ∧ mTop M' = false ∧ Nat.ble ((mR M').frames + 1) (mR M).frames = true ∧ Nat.ble ((rest.map fun v => v.category).sum + (mL M' + 11) + (mR M').locals) (mR M).locals = true
theorem ret_st {α b b' : Nat} {r : Option Value} {rest : List Value} (hr : r.all nr = true) : (r.map (con 0 b')).toList ++ cV α b rest = cV α b (r.toList ++ rest) := by
  cases r with
  | none => rfl
  | some v => simp only [Option.map_some, Option.toList_some, cV, List.cons_append, List.nil_append, List.map_cons]; rw [con_nr (show nr v = true from hr), con_nr (show nr v = true from hr)]
theorem inv_obj {l : Launch} {Z : State} {p : Program} {e : Env} {R : Room} {s : State} {m : MethodId} {args : Array Value} {below : List Frame} {meth : Method} {c : Code} {α b n0 : Nat} {h0 : Heap} {uC uS : Nat} {T T2 : State} {locs L2 : List Loc} {cells slots rc rs i : Nat}
    (I : Inv P M l Z p e R s m args below meth c α b n0 h0 uC uS w T locs cells slots) (ho : w.2[i]? = some o) (X2 : Stand p l e R s m args below meth c T2 (locs ++ L2) (cells + rc) (slots + rs))
    (N2 : Fr n0 L2) (R2 : RepW Z P.2 0 (b + (cK P.2 + 1) * i) (none, [o']) T2.heap) (F2 : Frm (b + (cK P.2 + 1) * i) (b + (cK P.2 + 1) * i + (cK P.2 + 1) * 1) T.heap T2.heap) (k2 : ∃ k, T2.heap.size = T.heap.size + k ∧ k + usedC (none, [o]) = usedC (none, [o']))
    (hC : o'.1 = o.1 + rc) (hS : usedS P.2 (none, [o']) = usedS P.2 (none, [o]) + rs) (q1 : cells + rc ≤ R.cells) (q2 : slots + rs ≤ R.slots) : Inv P M l Z p e R s m args below meth c α b n0 h0 uC uS (w.1, w.2.set i o') T2 (locs ++ L2) (cells + rc) (slots + rs) := by
  obtain ⟨X, Rp, Fm, Nl, hs, u1, u2, c1, c2, hN⟩ := I
  obtain ⟨k, k1, k3⟩ := k2
  have hi := get_lt ho
  have a1 := sum_set (fun o : Nat × S => 1 + o.1) (a' := o') ho
  have a2 := sum_set (fun o : Nat × S => cF P.2 + (((cA P.2).take o.1).map fun x => x.2.2.2).sum) (a' := o') ho
  have hle : (cK P.2 + 1) * (i + 1) ≤ (cK P.2 + 1) * mN M := Nat.mul_le_mul_left _ (by omega)
  rw [Nat.mul_succ] at hle
  refine ⟨X2, rep_back Rp ho R2 F2, Fm.trans (F2.wide (Nat.le_add_right _ _) (by omega)), Nl.app N2, ?_, ?_, ?_, q1, q2, by simpa using hN⟩
  · simp only [usedC, List.map_cons, List.map_nil, List.sum_cons, List.sum_nil] at k3; omega
  · simp only [usedC] at u1 ⊢; omega
  · simp only [usedS, List.map_cons, List.map_nil, List.sum_cons, List.sum_nil] at u2 hS ⊢; omega
def LinkV (P : PI) (own : String) (idx : Nat) (M' : Meth) : Prop := Jvm.Cond.methodLink own idx (mY M') ∈ P.1 ∧ Jvm.Cond.declares (mY M') ∈ P.1 ∧ Jvm.Cond.selects (cN P.2) (mY M') (mY M') ∈ P.1 ∧ Jvm.Cond.instanceMethod (mY M') ∈ P.1 ∧ Jvm.Cond.code (mY M') (mB M') (mL M') (mT M') ∈ P.1 ∧ (mY M').cls = cN P.2 ∧ mN M' = 1
def LinkP (P : PI) (own : String) (idx : Nat) (M' : Meth) : Prop := Jvm.Cond.methodLink own idx (mY M') ∈ P.1 ∧ Jvm.Cond.instanceMethod (mY M') ∈ P.1 ∧ Jvm.Cond.privateMethod (mY M') ∈ P.1 ∧ Jvm.Cond.code (mY M') (mB M') (mL M') (mT M') ∈ P.1 ∧ (mY M').cls = cN P.2 ∧ mN M' = 1
def LinkS (P : PI) (own : String) (idx : Nat) (M' : Meth) : Prop := Jvm.Cond.methodLink own idx (mY M') ∈ P.1 ∧ Jvm.Cond.static (mY M') ∈ P.1 ∧ Jvm.Cond.initialized (mY M').cls ∈ P.1 ∧ Jvm.Cond.code (mY M') (mB M') (mL M') (mT M') ∈ P.1 ∧ ((mY M').cls ≠ "java/lang/invoke/MethodHandle" ∧ (mY M').cls ≠ "java/lang/invoke/VarHandle")
def LinkI (P : PI) (own : String) (idx : Nat) (M' : Meth) : Prop := Jvm.Cond.methodLink own idx (mY M') ∈ P.1 ∧ Jvm.Cond.instanceMethod (mY M') ∈ P.1 ∧ Jvm.Cond.code (mY M') (mB M') (mL M') (mT M') ∈ P.1 ∧ (mY M').cls = cN P.2 ∧ mN M' = 1 ∧ mT M' = none ∧ (mY M').name = "<init>"
variable {M' : Meth} {i idx id : Nat} {as rest : List Value} {rv : Option Value} {ps : List FieldType} {rt : Option FieldType}
theorem cV_call {α b : Nat} {jd : Nat} (hnr : as.all nr = true) (hst : st = as.reverse ++ .ref (jd + 1) :: rest) : cV α b st = as.reverse ++ .ref (b + jd) :: cV α b rest := by
  subst hst
  have h1 : cV α b as.reverse = as.reverse := cV_nr (by rw [List.all_reverse]; exact hnr)
  unfold cV at h1 ⊢
  rw [List.map_append, h1]; rfl
theorem go_virt (lk : LinkV P (mY M).cls idx M') (pd : parseMethodDescriptor (mY M').desc = some ⟨ps, rt⟩) (hn : as.length = ps.length) (hid : id = (cK P.2 + 1) * i + 1) (hst : st = as.reverse ++ .ref id :: rest) (hnr : as.all nr = true) (hrr : rv.all nr = true) (ho : w.2[i]? = some o) (hw' : w' = (w.1, w.2.set i o')) (hC : o'.1 = o.1) (sm : Small M M' rest)
    (d : decode (mB M) pc = .ok (.invokevirtual idx, 3)) (cl : Call P M' (.ref 1 :: as) (none, [o]) (rv, (none, [o']))) (g : Go P M (pc + 3) L (rv.toList ++ rest) w' out) : Go P M pc L st w out :=
  go_ch (fun l Z a0 p e R s1 m args below meth c α b n0 h0 uC uS ok hl T locs cells slots I => by
    subst hw' hid
    obtain ⟨hw, fa, hx, hZ, hown, hc, hml, hret, hnm, hR, hn0, htop, hsz⟩ := ok
    obtain ⟨k1, k2, k3, k4, k5, k6, k7⟩ := lk
    obtain ⟨z1, z2, z3, z4, z5⟩ := sm
    have C := cl l Z a0 [] 0 (b + (cK P.2 + 1) * i) n0 T.heap hw fa (Nat.le_trans hn0 (Nat.le_add_right _ _)) (rep_obj I.2.1 ho) (by rw [k7]; exact Nat.le_refl _) (fun q => by rw [z3] at q; cases q)
    have Bk := backOf (Q := CQ P.2 Z 0 (b + (cK P.2 + 1) * i) n0 T.heap (mN M') (none, [o]) (rv, (none, [o']))) (R := R) (p := p) (e := e) (below := below) (s := s1) (args := args) (len := 3) (W := (rest.map fun v => v.category).sum) C hZ (hw _ k5) (by rw [k6]; exact fa.2.1) (by rw [hR]; exact Nat.le_of_ble_eq_true z4) (by rw [hR]; exact Nat.le_of_ble_eq_true z5)
    have E := (I.2.1.2 i o ho).1
    obtain ⟨cB, kB, q1, q2, q3⟩ := isOf (T := T) hZ rfl E
    obtain ⟨v, vm1, ⟨T2, Lx, kx, nx⟩, -, X2, ⟨L2, hQ, l2, y2, n2⟩, stp⟩ := I.1.virtualBack hx (y := mY M') (z := mY M') hown (mvT hZ (hw _ k1)) (mvT hZ (hw _ k2)) (notFace_of_selects (args := #[]) (mvT hZ (hw _ k3))) (mvT hZ (hw _ k3)) (mvT hZ (hw _ k4)) (by rw [k6]; exact fa.2.2.2.2.2.2) Bk q1 q3 (g := mkF m pc (cL α b L) (cV α b st)) rfl (by show (cL α b L).size = c.maxLocals; rw [cL_size, hl, hml]) (Steps.refl _) (argsL := as) (rest := cV α b rest) (lenOf pd hn) (cV_call hnr hst)
      (by show 2 * 0 + _ ≤ _; rw [cV_sum]; exact Nat.le_of_eq (Nat.zero_add _)) (hb hc d) (fun _ _ => ⟨by rw [show (cV 0 (b + (cK P.2 + 1) * i) (.ref 1 :: as)) = .ref (b + (cK P.2 + 1) * i) :: cV 0 (b + (cK P.2 + 1) * i) as from rfl, cV_nr hnr], rfl, by rw [z1]; exact I.2.2.2.2.2.2.2.1, by rw [z2]; exact I.2.2.2.2.2.2.2.2.1⟩)
    dsimp only [Pt.U, Pt.locs, Pt.cells, Pt.slots] at X2 l2 y2 n2 stp hQ
    subst l2 y2 n2
    obtain ⟨rfl, N2, R2, F2, k8⟩ := hQ
    rw [k7] at F2
    refine ⟨T2, _, _, _, inv_obj I ho X2 N2 R2 F2 k8 (by rw [z1]; exact hC) (by rw [z2]; simp [usedS, hC]) (by rw [z1]; exact I.2.2.2.2.2.2.2.1) (by rw [z2]; exact I.2.2.2.2.2.2.2.2.1), fun target r => stp.trans ?_⟩
    rw [← ret_st (b' := b + (cK P.2 + 1) * i) hrr] at r
    exact r) g
theorem go_priv (lk : LinkP P (mY M).cls idx M') (pd : parseMethodDescriptor (mY M').desc = some ⟨ps, rt⟩) (hn : as.length = ps.length) (hid : id = (cK P.2 + 1) * i + 1) (hst : st = as.reverse ++ .ref id :: rest) (hnr : as.all nr = true) (hrr : rv.all nr = true) (ho : w.2[i]? = some o) (hw' : w' = (w.1, w.2.set i o')) (hC : o'.1 = o.1) (sm : Small M M' rest)
    (d : decode (mB M) pc = .ok (.invokevirtual idx, 3)) (cl : Call P M' (.ref 1 :: as) (none, [o]) (rv, (none, [o']))) (g : Go P M (pc + 3) L (rv.toList ++ rest) w' out) : Go P M pc L st w out :=
  go_ch (fun l Z a0 p e R s1 m args below meth c α b n0 h0 uC uS ok hl T locs cells slots I => by
    subst hw' hid
    obtain ⟨hw, fa, hx, hZ, hown, hc, hml, hret, hnm, hR, hn0, htop, hsz⟩ := ok
    obtain ⟨k1, k4, k3, k5, k6, k7⟩ := lk
    obtain ⟨z1, z2, z3, z4, z5⟩ := sm
    have C := cl l Z a0 [] 0 (b + (cK P.2 + 1) * i) n0 T.heap hw fa (Nat.le_trans hn0 (Nat.le_add_right _ _)) (rep_obj I.2.1 ho) (by rw [k7]; exact Nat.le_refl _) (fun q => by rw [z3] at q; cases q)
    have Bk := backOf (Q := CQ P.2 Z 0 (b + (cK P.2 + 1) * i) n0 T.heap (mN M') (none, [o]) (rv, (none, [o']))) (R := R) (p := p) (e := e) (below := below) (s := s1) (args := args) (len := 3) (W := (rest.map fun v => v.category).sum) C hZ (hw _ k5) (by rw [k6]; exact fa.2.1) (by rw [hR]; exact Nat.le_of_ble_eq_true z4) (by rw [hR]; exact Nat.le_of_ble_eq_true z5)
    obtain ⟨cell, q1, q2⟩ := (I.2.1.2 i o ho).1.cell
    have hy : (mY M').cls ≠ "java/lang/invoke/MethodHandle" ∧ (mY M').cls ≠ "java/lang/invoke/VarHandle" := by rw [k6]; exact fa.2.2.2.2.2.2
    have hpriv : s1.PrivateAt (mY M') := Cond.privateMethod_at (mvP hZ (hw _ k3) (args := #[]))
    have hin : (Jvm.Cond.instanceMethod (mY M')).before args s1 = true := mvT hZ (hw _ k4)
    obtain ⟨c2, kk, i1, i2, i3, i4, -⟩ := Cond.instantiable_spec fa.1
    obtain ⟨k', j1, j2⟩ := hZ.alike.2.2 _ _ i2
    have hsel : (Jvm.Cond.selects (mY M').cls (mY M') (mY M')).before args s1 = true := selects_self_of_private (c := c2) (k := k') (by rw [k6, hZ.alike.findClass]; exact i1) j1 (by
      have : kk.isInterface = false := by simp only [Bool.or_eq_false_iff] at i4; exact i4.1
      rw [j2]; exact this) hpriv hin hy
    obtain ⟨v, vm1, ⟨T2, Lx, kx, nx⟩, -, X2, ⟨L2, hQ, l2, y2, n2⟩, stp⟩ := I.1.privateBack hx (y := mY M') hown (mvT hZ (hw _ k1)) hin hsel hpriv (mvT hZ (hw _ k5)) hy Bk (g := mkF m pc (cL α b L) (cV α b st)) rfl (by show (cL α b L).size = c.maxLocals; rw [cL_size, hl, hml]) (Steps.refl _) (a := b + (cK P.2 + 1) * i) q1 q2 (argsL := as) (rest := cV α b rest) (lenOf pd hn) (cV_call hnr hst)
      (by show 2 * 0 + _ ≤ _; rw [cV_sum]; exact Nat.le_of_eq (Nat.zero_add _)) (hb hc d) (fun _ _ => ⟨by rw [show (cV 0 (b + (cK P.2 + 1) * i) (.ref 1 :: as)) = .ref (b + (cK P.2 + 1) * i) :: cV 0 (b + (cK P.2 + 1) * i) as from rfl, cV_nr hnr], rfl, by rw [z1]; exact I.2.2.2.2.2.2.2.1, by rw [z2]; exact I.2.2.2.2.2.2.2.2.1⟩)
    dsimp only [Pt.U, Pt.locs, Pt.cells, Pt.slots] at X2 l2 y2 n2 stp hQ
    subst l2 y2 n2
    obtain ⟨rfl, N2, R2, F2, k8⟩ := hQ
    rw [k7] at F2
    refine ⟨T2, _, _, _, inv_obj I ho X2 N2 R2 F2 k8 (by rw [z1]; exact hC) (by rw [z2]; simp [usedS, hC]) (by rw [z1]; exact I.2.2.2.2.2.2.2.1) (by rw [z2]; exact I.2.2.2.2.2.2.2.2.1), fun target r => stp.trans ?_⟩
    rw [← ret_st (b' := b + (cK P.2 + 1) * i) hrr] at r
    exact r) g
theorem go_stat (lk : LinkS P (mY M).cls idx M') (pd : parseMethodDescriptor (mY M').desc = some ⟨ps, rt⟩) (hn : as.length = ps.length) (hst : st = as.reverse ++ rest) (hN' : mN M' ≤ mN M ∧ w.2.length ≤ mN M') (hu : usedC w' = usedC w ∧ usedS P.2 w' = usedS P.2 w ∧ w'.2.length = w.2.length) (sm : Small M M' rest)
    (d : decode (mB M) pc = .ok (.invokestatic idx, 3)) (cl : Call P M' as w (rv, w')) (g : Go P M (pc + 3) L (rv.toList ++ rest) w' out) : Go P M pc L st w out :=
  go_ch (fun l Z a0 p e R s1 m args below meth c α b n0 h0 uC uS ok hl T locs cells slots I => by
    obtain ⟨hw, fa, hx, hZ, hown, hc, hml, hret, hnm, hR, hn0, htop, hsz⟩ := ok
    obtain ⟨k1, k2, k3, k5, k6⟩ := lk
    obtain ⟨z1, z2, z3, z4, z5⟩ := sm
    have C := cl l Z a0 [] α b n0 T.heap hw fa hn0 I.2.1 hN'.2 (fun q => by rw [z3] at q; cases q)
    have Bk := backOf (Q := CQ P.2 Z α b n0 T.heap (mN M') w (rv, w')) (R := R) (p := p) (e := e) (below := below) (s := s1) (args := args) (len := 3) (W := (rest.map fun v => v.category).sum) C hZ (hw _ k5) (hw _ k3) (by rw [hR]; exact Nat.le_of_ble_eq_true z4) (by rw [hR]; exact Nat.le_of_ble_eq_true z5)
    obtain ⟨v, vm1, ⟨T2, Lx, kx, nx⟩, -, X2, ⟨L2, hQ, l2, y2, n2⟩, stp⟩ := Jvm.LawKit.callS I.1 hx (y := mY M') hown (mvT hZ (hw _ k1)) (mvT hZ (hw _ k2)) (mvT hZ (hw _ k3)) (mvT hZ (hw _ k5)) k6 Bk (g := mkF m pc (cL α b L) (cV α b st)) rfl (by show (cL α b L).size = c.maxLocals; rw [cL_size, hl, hml]) (argsL := cV α b as) (rest := cV α b rest) (lenOf pd (by simpa [cV] using hn)) (by subst hst; simp [cV])
      (by show 2 * 0 + _ ≤ _; rw [cV_sum]; exact Nat.le_of_eq (Nat.zero_add _)) (hb hc d) (fun _ _ => ⟨rfl, rfl, by rw [z1]; exact I.2.2.2.2.2.2.2.1, by rw [z2]; exact I.2.2.2.2.2.2.2.2.1⟩)
    dsimp only [Pt.U, Pt.locs, Pt.cells, Pt.slots] at X2 l2 y2 n2 stp hQ
    subst l2 y2 n2
    obtain ⟨rfl, N2, R2, F2, k, k8, k9⟩ := hQ
    obtain ⟨X, Rp, Fm, Nl, hs, u1, u2, c1, c2, hN⟩ := I
    rw [z1, z2] at X2
    refine ⟨T2, _, _, _, ⟨X2, R2, Fm.trans (F2.wide (Nat.le_refl _) (by have := Nat.mul_le_mul_left (cK P.2 + 1) hN'.1; omega)), Nl.app N2, ?_, ?_, ?_, c1, c2, by rw [hu.2.2]; exact hN⟩, fun target r => stp target ?_⟩
    · rw [k8]; have := hu.1; simp only at k9; omega
    · rw [hu.1]; exact u1
    · rw [hu.2.1]; exact u2
    · have e1 : cV α b (rv.toList ++ rest) = (rv.map (con α b)).toList ++ cV α b rest := by cases rv <;> rfl
      rw [e1] at r; exact r) g
/-- a constructor, by its contract -/
theorem go_init {k2 : Nat} {s2 : S} (lk : LinkI P (mY M).cls idx M') (pd : parseMethodDescriptor (mY M').desc = some ⟨ps, rt⟩) (hn : as.length = ps.length) (hid : id = (cK P.2 + 1) * i + 1) (hst : st = as.reverse ++ .ref id :: rest) (hnr : as.all nr = true) (ho : w.2[i]? = some (k, s)) (hw' : w' = (w.1, w.2.set i (k2, s2)))
    (hC : k2 = k + (mR M').cells) (hS : usedS P.2 (none, [(k2, s2)]) = usedS P.2 (none, [(k, s)]) + (mR M').slots) (htM : mTop M = true) (hR1 : Nat.ble (usedC w + (mR M').cells) ((mR M).cells + mUC M) = true) (hR2 : Nat.ble (usedS P.2 w + (mR M').slots) ((mR M).slots + mUS M) = true)
    (hq : usedC w = (cK P.2 + 1) * i + usedC (none, [(k, s)]) ∧ usedC (none, [(k, s)]) = mUC M' ∧ usedS P.2 (none, [(k, s)]) = mUS M') (sm : Nat.ble ((mR M').frames + 1) (mR M).frames = true ∧ Nat.ble ((rest.map fun v => v.category).sum + (mL M' + 11) + (mR M').locals) (mR M).locals = true)
    (d : decode (mB M) pc = .ok (.invokespecial idx, 3)) (cl : Call P M' (.ref 1 :: as) (none, [(k, s)]) (none, (none, [(k2, s2)]))) (g : Go P M (pc + 3) L rest w' out) : Go P M pc L st w out :=
  go_ch (fun l Z a0 p e R s1 m args below meth c α b n0 h0 uC uS ok hl T locs cells slots I => by
    subst hw' hid
    obtain ⟨hw, fa, hx, hZ, hown, hc, hml, hret, hnm, hR, hn0, htop, hsz⟩ := ok
    obtain ⟨k1, k4, k5, k6, k7, k9, k10⟩ := lk
    obtain ⟨z4, z5⟩ := sm
    obtain ⟨t1, t2, t3⟩ := htop htM
    have Ic := I.2.2.2.2.2.1
    have Is := I.2.2.2.2.2.2.1
    have b1 : cells + (mR M').cells ≤ R.cells := by have := Nat.le_of_ble_eq_true hR1; rw [hR]; omega
    have b2 : slots + (mR M').slots ≤ R.slots := by have := Nat.le_of_ble_eq_true hR2; rw [hR]; omega
    have C := cl l Z a0 [] 0 (b + (cK P.2 + 1) * i) n0 T.heap hw fa (Nat.le_trans hn0 (Nat.le_add_right _ _)) (rep_obj I.2.1 ho) (by rw [k7]; exact Nat.le_refl _) (fun _ => ⟨by rw [I.2.2.2.2.1]; have := hq.1; omega, hq.2.1, hq.2.2⟩)
    have Bk := backOf (Q := CQ P.2 Z 0 (b + (cK P.2 + 1) * i) n0 T.heap (mN M') (none, [(k, s)]) (none, (none, [(k2, s2)]))) (R := R) (p := p) (e := e) (below := below) (s := s1) (args := args) (len := 3) (W := (rest.map fun v => v.category).sum) C hZ (hw _ k5) (by rw [k6]; exact fa.2.1) (by rw [hR]; exact Nat.le_of_ble_eq_true z4) (by rw [hR]; exact Nat.le_of_ble_eq_true z5)
    have hy : (mY M').cls ≠ "java/lang/invoke/MethodHandle" ∧ (mY M').cls ≠ "java/lang/invoke/VarHandle" := by rw [k6]; exact fa.2.2.2.2.2.2
    have hcd := hw _ k5
    rw [k9] at hcd
    obtain ⟨v, vm1, ⟨T2, Lx, kx, nx⟩, -, X2, ⟨L2, hQ, l2, y2, n2⟩, stp⟩ := I.1.specialBack hx (y := mY M') k10 hown (mvT hZ (hw _ k1)) (mvT hZ (hw _ k4)) (mvT hZ hcd) hy Bk (g := mkF m pc (cL α b L) (cV α b st)) rfl (by show (cL α b L).size = c.maxLocals; rw [cL_size, hl, hml]) (Steps.refl _) (a := b + (cK P.2 + 1) * i) (argsL := as) (rest := cV α b rest) (lenOf pd hn) (cV_call hnr hst)
      (by show 2 * 0 + _ ≤ _; rw [cV_sum]; exact Nat.le_of_eq (Nat.zero_add _)) (hb hc d) (fun _ _ => ⟨by rw [show (cV 0 (b + (cK P.2 + 1) * i) (.ref 1 :: as)) = .ref (b + (cK P.2 + 1) * i) :: cV 0 (b + (cK P.2 + 1) * i) as from rfl, cV_nr hnr], rfl, b1, b2⟩)
    dsimp only [Pt.U, Pt.locs, Pt.cells, Pt.slots] at X2 l2 y2 n2 stp hQ
    subst l2 y2 n2
    obtain ⟨rfl, N2, R2, F2, k8⟩ := hQ
    rw [k7] at F2
    exact ⟨T2, _, _, _, inv_obj I ho X2 N2 R2 F2 k8 hC hS b1 b2, fun target r => stp.trans r⟩) g
/-- Object's constructor -/
theorem go_objinit {a : Nat} (k1 : Jvm.Cond.methodLink (mY M).cls idx Lib.objectInit ∈ P.1) (k2 : Jvm.Cond.instanceMethod Lib.objectInit ∈ P.1) (k3 : Jvm.Cond.code Lib.objectInit ⟨#[0xb1]⟩ 1 none ∈ P.1) (z4 : Nat.ble 1 (mR M).frames = true) (z5 : Nat.ble ((rest.map fun v => v.category).sum + 12) (mR M).locals = true)
    (d : decode (mB M) pc = .ok (.invokespecial idx, 3)) (g : Go P M (pc + 3) L rest w out) : Go P M pc L (.ref (a + 1) :: rest) w out :=
  go_ch (fun l Z a0 p e R s1 m args below meth c α b n0 h0 uC uS ok hl T locs cells slots I => by
    obtain ⟨hw, fa, hx, hZ, hown, hc, hml, hret, hnm, hR, hn0, htop, hsz⟩ := ok
    obtain ⟨X, Rp, Fm, Nl, hs, u1, u2, c1, c2, hN⟩ := I
    obtain ⟨T', X', e', stp⟩ := initO X hx hZ hown (hw _ k1) (hw _ k2) (hw _ k3) rfl (g := mkF m pc (cL α b L) (cV α b (.ref (a + 1) :: rest))) rfl (by show (cL α b L).size = c.maxLocals; rw [cL_size, hl, hml]) (a := b + a) (rest := cV α b rest) rfl (hb hc d) (by rw [hR]; exact Nat.le_of_ble_eq_true z4) (W := (rest.map fun v => v.category).sum) (by show 2 * 0 + _ ≤ _; rw [cV_sum]; exact Nat.le_of_eq (Nat.zero_add _)) (by rw [hR]; exact Nat.le_of_ble_eq_true z5)
    exact ⟨T', locs, cells, slots, ⟨X', by rw [e']; exact Rp, by rw [e']; exact Fm, Nl, by rw [e']; exact hs, u1, u2, c1, c2, hN⟩, fun target r => stp target r⟩) g
/-- a new object of the class -/
theorem go_new {n : Nat} (k1 : Jvm.Cond.classLink (mY M).cls idx (cN P.2) ∈ P.1) (htM : mTop M = true) (hn : w.2.length = n) (hq : usedC w = (cK P.2 + 1) * n) (hw' : w' = (w.1, w.2 ++ [(0, s0)])) (hN' : Nat.blt n (mN M) = true) (hR1 : Nat.ble (usedC w + 1) ((mR M).cells + mUC M) = true) (hR2 : Nat.ble (usedS P.2 w + cF P.2) ((mR M).slots + mUS M) = true)
    (d : decode (mB M) pc = .ok (.new idx, 3)) (hid : id = (cK P.2 + 1) * n + 1) (g : Go P M (pc + 3) L (.ref id :: st) w' out) : Go P M pc L st w out :=
  go_ch (fun l Z a0 p e R s1 m args below meth c α b n0 h0 uC uS ok hl T locs cells slots I => by
    subst hw' hid
    obtain ⟨hw, fa, hx, hZ, hown, hc, hml, hret, hnm, hR, hn0, htop, hsz⟩ := ok
    obtain ⟨X, Rp, Fm, Nl, hs, u1, u2, c1, c2, hN⟩ := I
    obtain ⟨t1, t2, t3⟩ := htop htM
    have b1 : cells + 1 ≤ R.cells := by have := Nat.le_of_ble_eq_true hR1; rw [hR]; omega
    have b2 : slots + cF P.2 ≤ R.slots := by have := Nat.le_of_ble_eq_true hR2; rw [hR]; omega
    obtain ⟨T2, h2, X2, e2, E2, A2, D2, -, st2⟩ := newO X hx hZ hown (hw _ k1) fa.1 fa.2.1 rfl (g := mkF m pc (cL α b L) (cV α b st)) rfl (hb hc d) b1 b2
    have ha : T.heap.size = b + (cK P.2 + 1) * n := by rw [hs, t1]; omega
    rw [ha] at A2 D2 st2
    have sz2 : T2.heap.size = T.heap.size + 1 := by
      have q1 := X2.heapSize
      have q2 : b + (cK P.2 + 1) * n < h2.size := A2.lt
      rw [e2] at q1 ⊢
      omega
    refine ⟨T2, locs, _, _, ⟨X2, ?_, by rw [e2]; exact Fm.ext E2, Nl, by rw [sz2, hs]; omega, ?_, ?_, b1, b2, ?_⟩, fun target r => st2 target ?_⟩
    · rw [e2]
      refine ⟨fun l1 h1 => (Rp.ext E2).1 l1 h1, fun j oj hj => ?_⟩
      by_cases q : j < w.2.length
      · rw [show (w.1, w.2 ++ [(0, s0)]).2 = w.2 ++ [(0, s0)] from rfl, List.getElem?_append_left q] at hj
        exact (Rp.ext E2).2 j oj hj
      · have hj' := get_lt hj
        simp at hj'
        have ej : j = n := by omega
        subst ej
        rw [show (w.1, w.2 ++ [(0, s0)]).2 = w.2 ++ [(0, s0)] from rfl, List.getElem?_append_right (by omega)] at hj
        rw [hn] at hj; simp at hj; subst hj
        refine ⟨A2, fun f x hx => ?_, fun q x hx => ?_, fun q x _ hq => absurd hq (Nat.not_lt_zero _)⟩
        · have := D2 (fa.2.2.1 f x hx).1 (fa.2.2.1 f x hx).2
          rw [fa.2.2.2.2.2.1 f x hx] at this
          exact this
        · have := D2 (fa.2.2.2.1 q x hx).1 (fa.2.2.2.1 q x hx).2
          rw [if_neg (Nat.not_lt_zero _)]
          exact this
    · simp [usedC] at u1 ⊢; omega
    · simp [usedS] at u2 ⊢; omega
    · simp; have : n < mN M := by simpa [Nat.blt_eq] using hN'
      omega
    · exact r) g
/-- a new array, laid into its field at once -/
theorem rep_new {Z : State} {a0 : Array Value} {ci : CI} {h h1 h2 : Heap} {b : Nat} {s s' : S} {k : Nat} {nm ds : String} {ty : FieldType} {cap : Nat} {cl : Cell} (fa : Facts Z a0 ci) (F : Rep1 Z ci h b (k, s)) (hf : (cA ci)[k]? = some (nm, ds, ty, cap)) (E : Ext h h1) (A : Arr Z h1 (b + 1 + k) cl ty) (ec : cl.slots = (arV ty s' k).toArray)
    (Wt : Wr h1 h2 b (Jvm.RoadKit.slotOf Z (cN ci) nm ds) (.ref (b + 1 + k))) (ho : ∀ q' x, (cA ci)[q']? = some x → q' ≠ k → arV x.2.2.1 s' q' = arV x.2.2.1 s q') (ha : gI s' = gI s) (hbb : gL s' = gL s) : Rep1 Z ci h2 b (k + 1, s') := by
  obtain ⟨f1, f2, f3, f4⟩ := F
  obtain ⟨-, -, g1, g2, g3, -⟩ := fa
  have lt := get_lt hf
  refine ⟨(f1.ext E).wr Wt, fun f x hx => ?_, fun q x hx => ?_, fun q x hx hq => ?_⟩
  · have e : scV x.2.2 s' f = scV x.2.2 s f := by unfold scV; split <;> simp [ha, hbb]
    have lt' := get_lt hx
    show Fld Z h2 b (cN ci) x.1 x.2.1 (scV x.2.2 s' f)
    rw [e]
    refine ((f2 f x hx).ext E).other Wt (Or.inr ?_)
    refine slot_ne (g1 f x hx).1 (g2 k _ hf).1 ?_ (g1 f x hx).2 (g2 k _ hf).2
    intro en
    have n1 : ((cS ci).map (fun x => x.1) ++ (cA ci).map (fun x => x.1))[f]? = some x.1 := by rw [List.getElem?_append_left (by simpa using lt')]; simp [hx]
    have n2 : ((cS ci).map (fun x => x.1) ++ (cA ci).map (fun x => x.1))[(cS ci).length + k]? = some nm := by rw [List.getElem?_append_right (by simp)]; simp [hf]
    rw [en] at n1
    obtain ⟨i1, j1⟩ := List.getElem?_eq_some_iff.mp n1
    obtain ⟨i2, j2⟩ := List.getElem?_eq_some_iff.mp n2
    have := (List.getElem_inj g3).mp (j1.trans j2.symm)
    omega
  · by_cases e : q = k
    · subst e
      cases hf.symm.trans hx
      rw [if_pos (show q < (q + 1, s').1 from Nat.lt_succ_self q)]
      exact ((f3 q _ hf).ext E).same Wt
    · have lt' := get_lt hx
      have e2 : (if q < (k + 1, s').1 then Value.ref (b + 1 + q) else Value.null) = (if q < (k, s).1 then Value.ref (b + 1 + q) else Value.null) := by
        show (if q < k + 1 then _ else _) = (if q < k then _ else _)
        by_cases q1 : q < k
        · rw [if_pos q1, if_pos (by omega)]
        · rw [if_neg q1, if_neg (by omega)]
      rw [e2]
      refine ((f3 q x hx).ext E).other Wt (Or.inr ?_)
      refine slot_ne (g2 q x hx).1 (g2 k _ hf).1 ?_ (g2 q x hx).2 (g2 k _ hf).2
      intro en
      have n1 : ((cS ci).map (fun x => x.1) ++ (cA ci).map (fun x => x.1))[(cS ci).length + q]? = some x.1 := by rw [List.getElem?_append_right (by simp)]; simp [hx]
      have n2 : ((cS ci).map (fun x => x.1) ++ (cA ci).map (fun x => x.1))[(cS ci).length + k]? = some nm := by rw [List.getElem?_append_right (by simp)]; simp [hf]
      rw [en] at n1
      obtain ⟨i1, j1⟩ := List.getElem?_eq_some_iff.mp n1
      obtain ⟨i2, j2⟩ := List.getElem?_eq_some_iff.mp n2
      have := (List.getElem_inj g3).mp (j1.trans j2.symm)
      omega
  · by_cases e : q = k
    · subst e
      cases hf.symm.trans hx
      exact ⟨cl, A.other Wt (nq (by omega)), ec⟩
    · obtain ⟨c, B, eb⟩ := f4 q x hx (by have : q < k + 1 := hq; show q < k; omega)
      refine ⟨c, (B.ext E).other Wt (nq (by omega)), eb.trans ?_⟩
      rw [ho q x hx e]
theorem go_newV {aty : ArrayType} {ty : FieldType} {nm ds : String} {cap : Nat} {n : Int32} {s' : S} (hty : newarray.typeOf aty = ty) (ha : (cA P.2)[k]? = some (nm, ds, ty, cap)) (k0 : Jvm.Cond.arrayClass ty ∈ P.1) (k1 : Jvm.Cond.fieldLink (cN P.2) idx (cN P.2) nm ds ∈ P.1) (hM : (mY M).cls = cN P.2)
    (hlays : Jvm.Cond.lays (cN P.2) (cN P.2) nm ds ∈ P.1 ∨ (Jvm.Cond.laysFinal (cN P.2) (cN P.2) nm ds ∈ P.1 ∧ (mY M).name = "<init>")) (htM : mTop M = true) (hp : 0 < mN M) (hn : ¬ n < 0) (hcap : Nat.ble n.toNatClampNeg cap = true) (hbig : Nat.ble (cap * 8) 536870912 = true)
    (hR1 : Nat.ble (1 + k + 1) ((mR M).cells + mUC M) = true) (hR2 : Nat.ble (usedS P.2 (none, [(k, s)]) + cap) ((mR M).slots + mUS M) = true)
    (hv : arV ty s' k = List.replicate n.toNatClampNeg (defaultValue ty)) (hoth : ∀ q' x, (cA P.2)[q']? = some x → q' ≠ k → arV x.2.2.1 s' q' = arV x.2.2.1 s q') (hgI : gI s' = gI s) (hgL : gL s' = gL s)
    (d : decode (mB M) pc = .ok (.newarray aty, 2)) (d2 : decode (mB M) (pc + 2) = .ok (.putfield idx, 3)) (g : Go P M (pc + 5) L st (none, [(k + 1, s')]) out) : Go P M pc L (.int n :: .ref 1 :: st) (none, [(k, s)]) out :=
  go_ch (fun l Z a0 p e R s1 m args below meth c α b n0 h0 uC uS ok hl T locs cells slots I => by
    obtain ⟨hw, fa, hx, hZ, hown, hc, hml, hret, hnm, hR, hn0, htop, hsz⟩ := ok
    obtain ⟨X, Rp, Fm, Nl, hs, u1, u2, c1, c2, hN⟩ := I
    obtain ⟨t1, t2, t3⟩ := htop htM
    have u1' : cells + uC = 1 + k := by simpa [usedC] using u1
    have b1 : cells + 1 ≤ R.cells := by have := Nat.le_of_ble_eq_true hR1; rw [hR]; omega
    have b2 : slots + cap ≤ R.slots := by have := Nat.le_of_ble_eq_true hR2; rw [hR]; omega
    subst hty
    obtain ⟨T2, h2, cA2, X2, e2, E2, A2, st2⟩ := newP X hx hZ (hw _ k0) rfl (g := mkF m pc (cL α b L) (.int n :: .ref b :: cV α b st)) rfl (hb hc d) rfl hn (Nat.le_of_ble_eq_true hcap) (Nat.le_of_ble_eq_true hbig) b1 b2
    have hadr : T.heap.size = b + 1 + k := by rw [hs, t1]; omega
    rw [hadr] at A2 st2
    have sz2 : T2.heap.size = T.heap.size + 1 := by
      have q1 := X2.heapSize
      have q2 : b + 1 + k < h2.size := A2.lt
      rw [e2] at q1 ⊢
      omega
    have Rp1 := rep_one Rp
    have Fd := Rp1.2.2.1 k _ ha
    rw [if_neg (show ¬ k < (k, s).1 from Nat.lt_irrefl k)] at Fd
    rw [hM] at hown
    obtain ⟨T3, h3, X3, e3, Wt, st3⟩ := putF X2 hx hZ hown (host := "") (Or.inl (hw _ k1)) Via.refl e2 (Fd.ext E2) (Rp1.1.ext E2) (hlays.imp (fun q => hw _ q) (fun q => ⟨hw _ q.1, rfl, hnm.trans q.2⟩)) fa.1 (fa.2.2.2.1 k _ ha).2 (v := .ref (b + 1 + k)) rfl rfl (g := mkF m (pc + 2) (cL α b L) (.ref (b + 1 + k) :: .ref b :: cV α b st)) rfl rfl (hb hc d2)
    refine ⟨T3, _, _, _, ⟨X3, rep_mk (by rw [e3]; exact rep_new fa Rp1 ha E2 A2 (by rw [hv]; simp [newA]) Wt hoth hgI hgL), by rw [e3]; exact (Fm.ext E2).wr Wt (Nat.le_refl _) (by have := Nat.mul_le_mul_left (cK P.2 + 1) hp; omega), Fr.snoc X3 Nl hn0, by rw [e3, Wt.size, ← e2, sz2, hs]; omega, by simp [usedC]; omega, ?_, b1, b2, hN⟩, fun target r => st2 target (st3 target r)⟩
    have hk := get_lt ha
    simp only [usedS, List.map_cons, List.map_nil, List.sum_cons, List.sum_nil] at u2 ⊢
    rw [List.take_add_one, List.map_append, List.sum_append, ha]
    simp [List.map_take] at u2 ⊢; omega) g
theorem go_newI {aty : ArrayType} {ty : FieldType} {nm ds : String} {cap : Nat} {n : Int32} (hty : newarray.typeOf aty = ty) (hi : ty = .int ∨ ty = .boolean ∨ ty = .byte) (ha : (cA P.2)[k]? = some (nm, ds, ty, cap)) (k0 : Jvm.Cond.arrayClass ty ∈ P.1) (k1 : Jvm.Cond.fieldLink (cN P.2) idx (cN P.2) nm ds ∈ P.1) (hM : (mY M).cls = cN P.2)
    (hlays : Jvm.Cond.lays (cN P.2) (cN P.2) nm ds ∈ P.1 ∨ (Jvm.Cond.laysFinal (cN P.2) (cN P.2) nm ds ∈ P.1 ∧ (mY M).name = "<init>")) (htM : mTop M = true) (hp : 0 < mN M) (hn : ¬ n < 0) (hcap : Nat.ble n.toNatClampNeg cap = true) (hbig : Nat.ble (cap * 8) 536870912 = true)
    (hR1 : Nat.ble (1 + k + 1) ((mR M).cells + mUC M) = true) (hR2 : Nat.ble (usedS P.2 (none, [(k, s)]) + cap) ((mR M).slots + mUS M) = true)
    (d : decode (mB M) pc = .ok (.newarray aty, 2)) (d2 : decode (mB M) (pc + 2) = .ok (.putfield idx, 3)) (g : Go P M (pc + 5) L st (none, [(k + 1, sA s k (rep n.toNatClampNeg 0))]) out) : Go P M pc L (.int n :: .ref 1 :: st) (none, [(k, s)]) out :=
  go_newV hty ha k0 k1 hM hlays htM hp hn hcap hbig hR1 hR2 (by rcases hi with rfl | rfl | rfl <;> simp [arV, gA_sA, defaultValue, rep]) (fun q' x _ h => arV_sA s k _ _ q' h) rfl rfl d d2 g
theorem go_newJ {nm ds : String} {cap : Nat} {n : Int32} (ha : (cA P.2)[k]? = some (nm, ds, .long, cap)) (k0 : Jvm.Cond.arrayClass .long ∈ P.1) (k1 : Jvm.Cond.fieldLink (cN P.2) idx (cN P.2) nm ds ∈ P.1) (hM : (mY M).cls = cN P.2)
    (hlays : Jvm.Cond.lays (cN P.2) (cN P.2) nm ds ∈ P.1 ∨ (Jvm.Cond.laysFinal (cN P.2) (cN P.2) nm ds ∈ P.1 ∧ (mY M).name = "<init>")) (htM : mTop M = true) (hp : 0 < mN M) (hn : ¬ n < 0) (hcap : Nat.ble n.toNatClampNeg cap = true) (hbig : Nat.ble (cap * 8) 536870912 = true)
    (hR1 : Nat.ble (1 + k + 1) ((mR M).cells + mUC M) = true) (hR2 : Nat.ble (usedS P.2 (none, [(k, s)]) + cap) ((mR M).slots + mUS M) = true)
    (d : decode (mB M) pc = .ok (.newarray .long, 2)) (d2 : decode (mB M) (pc + 2) = .ok (.putfield idx, 3)) (g : Go P M (pc + 5) L st (none, [(k + 1, sB s k (rep n.toNatClampNeg 0))]) out) : Go P M pc L (.int n :: .ref 1 :: st) (none, [(k, s)]) out :=
  go_newV (aty := .long) (ty := .long) rfl ha k0 k1 hM hlays htM hp hn hcap hbig hR1 hR2 (by simp [arV, gB_sB, defaultValue, rep]) (fun q' x _ h => arV_sB s k _ _ q' h) rfl rfl d d2 g
end Rules
/-! ## the start -/
theorem tsw_out {x : Int32} {lo hi : Int} (h1 : -2147483648 ≤ lo) (h2 : hi < 2147483648) (ks : List Int32) (hk : ks = ((List.range (hi - lo + 1).toNat).map fun (j : Nat) => Int32.ofInt (lo + (j : Int)))) (hx : ∀ k ∈ ks, x ≠ k) : x.toInt < lo ∨ x.toInt > hi := by
  by_cases q1 : x.toInt < lo
  · exact Or.inl q1
  by_cases q2 : x.toInt > hi
  · exact Or.inr q2
  refine absurd rfl (hx x ?_)
  rw [hk, List.mem_map]
  refine ⟨(x.toInt - lo).toNat, List.mem_range.mpr (by omega), ?_⟩
  rw [show lo + (((x.toInt - lo).toNat : Nat) : Int) = x.toInt by omega]
  exact Int32.ofInt_toInt x
theorem list_of_array {V : Type} (a : Array V) (f : Nat → V) (h : ∀ j, j < a.size → a[j]? = some (f j)) : a = ((List.range a.size).map f).toArray := by
  apply Array.ext'
  apply List.ext_getElem?
  intro j
  by_cases q : j < a.size
  · simpa [q] using h j q
  · simp [q]
theorem small_len {n : Nat} {k : Int32} (h : n < 2 ^ 31) (q : n.toInt32 ≤ k) : (n : Int) ≤ k.toInt := by
  have e : (Int32.ofNat n).toInt = n := Int32.toInt_ofNat_of_lt h
  have := Int32.le_iff_toInt_le.mp q
  rwa [show n.toInt32.toInt = n from e] at this
theorem script_of {s : State} {args : Array Value} {t : Term} {k : Int32} (hf : Fit s) (h1 : (Cond.arrayOf t .int).value args s none s [] = some true) (h2 : (Cond.le (.length t) (.int k)).value args s none s [] = some true) :
    ∃ (a : Nat) (l : List Int32), t.eval args s none [] s = some (.ref a) ∧ Ar s s.heap a .int (l.map .int) ∧ a < s.heap.size ∧ (l.length : Int) ≤ k.toInt := by
  obtain ⟨a, ev⟩ := arr_v h1
  obtain ⟨c, A⟩ := Arr.start ev h1
  obtain ⟨x, y, ex, ey, -, -⟩ := cmp_v (Or.inr (Or.inr h2))
  obtain ⟨b, cell, e1, e2, e3, ev2⟩ := Jvm.Lib.length_spec ex
  have ea : b = a := by rw [ev] at e1; cases e1; rfl
  have ec : cell = c := by
    have := Arr.fin (Vm.Alike.refl _) A
    rw [ea, this] at e2; cases e2; rfl
  subst ea ec ev2
  obtain ⟨n, en, S⟩ := Scr.start hf A e3
  have hle : cell.slots.size.toInt32 ≤ k := by
    have ek : (Term.int k).eval args s none [] s = some (.int k) := rfl
    simp only [Cond.value, ex, ek] at h2
    simpa using h2
  refine ⟨b, (List.range cell.slots.size).map fun j => atv cell (Int32.ofNat j), ev, ⟨cell, A, ?_⟩, A.lt, ?_⟩
  · rw [List.map_map]
    refine list_of_array cell.slots _ fun j hj => ?_
    have e4 : (Int32.ofNat j).toNatClampNeg = j := by
      have : (Int32.ofNat j).toInt = j := Int32.toInt_ofNat_of_lt (by omega)
      simp [Int32.toNatClampNeg, this]
    have e5 : ¬ (Int32.ofNat j < 0) := by
      rw [Int32.lt_iff_toInt_lt, Int32.toInt_ofNat_of_lt (by omega)]; simp
    have := S.2.2.2 (Int32.ofNat j) (by rw [e4]; rintro (q | q); exact e5 q; omega)
    rw [e4] at this
    exact this
  · simpa using small_len e3 hle
theorem repW_none (Z : State) (ci : CI) (α b : Nat) (h : Heap) : RepW Z ci α b (none, []) h := ⟨fun l hl => (by cases hl), fun i o ho => (by simp at ho)⟩
theorem repW_some {Z : State} {ci : CI} {α b : Nat} {h : Heap} {l : List Int32} (A : Ar Z h α .int (l.map .int)) (q : α < b) : RepW Z ci α b (some l, []) h := ⟨fun l' hl => by cases hl; exact ⟨A, q⟩, fun i o ho => by simp at ho⟩
end Jvm.AM
/-! ## plain lemmas on ints, arrays and updates -/
namespace Jvm.PL
open Jvm.AM
theorem ofNat_toInt {k : Nat} (h : k < 2147483648) : (Int32.ofNat k).toInt = k := Int32.toInt_ofNat_of_lt h
theorem ofNat_lt {k m : Nat} (hk : k < 2147483648) (hm : m < 2147483648) : Int32.ofNat k < Int32.ofNat m ↔ k < m := by
  rw [Int32.lt_iff_toInt_lt, ofNat_toInt hk, ofNat_toInt hm]; omega
theorem lt_lit {k m : Nat} (hk : k < 2147483648) (hm : m < 2147483648 := by decide) : Int32.ofNat k < (OfNat.ofNat m : Int32) ↔ k < m := ofNat_lt hk hm
theorem ofNat_succ (k : Nat) : Int32.ofNat k + 1 = Int32.ofNat (k + 1) := by
  rw [Int32.ofNat_add]; rfl
theorem ofNat_nonneg {k : Nat} (hk : k < 2147483648) : ¬ Int32.ofNat k < 0 := by rw [Int32.lt_iff_toInt_lt, ofNat_toInt hk]; simp
theorem ofNat_clamp {k : Nat} (hk : k < 2147483648) : (Int32.ofNat k).toNatClampNeg = k := by simp [Int32.toNatClampNeg, ofNat_toInt hk]
theorem ix_ofNat {A : Type} (l : List A) {k : Nat} (hk : k < 2147483648) : ix l (Int32.ofNat k) = l[k]? := by
  unfold ix; rw [if_neg (ofNat_nonneg hk), ofNat_clamp hk]
theorem st_ofNat {A : Type} (l : List A) (x : A) {k : Nat} (hk : k < 2147483648) (hl : k < l.length) : Jvm.AM.st l (Int32.ofNat k) x = some (l.set k x) := by
  unfold Jvm.AM.st; rw [if_neg (ofNat_nonneg hk), ofNat_clamp hk, if_pos hl]
theorem toInt_clamp {v : Int32} (h : ¬ v < 0) : (v.toNatClampNeg : Int) = v.toInt := by
  rw [Int32.lt_iff_toInt_lt] at h
  simp only [Int32.toNatClampNeg]
  have : (0 : Int32).toInt = 0 := rfl
  omega
theorem eq_ofNat {v : Int32} (h : ¬ v < 0) : v = Int32.ofNat v.toNatClampNeg ∧ v.toNatClampNeg < 2147483648 := by
  have h1 := toInt_clamp h
  have h2 := v.toInt_lt
  have h3 : v.toNatClampNeg < 2147483648 := by omega
  refine ⟨Int32.toInt_inj.mp ?_, h3⟩
  rw [ofNat_toInt h3]; exact h1.symm
theorem ix_rep {A : Type} {v : Int32} {n : Nat} {x : A} (h0 : ¬ v < 0) (h1 : v < Int32.ofNat n) (hn : n < 2147483648) : ix (rep n x) v = some x := by
  obtain ⟨e, hl⟩ := eq_ofNat h0
  rw [e] at h1 ⊢
  have h2 := (ofNat_lt hl hn).mp h1
  rw [ix_ofNat _ hl, rep_get, if_pos h2]
theorem ix_nat {A : Type} (l : List A) {v : Int32} (h0 : ¬ v < 0) : ix l v = l[v.toNatClampNeg]? := by unfold ix; rw [if_neg h0]
theorem st_nat {A : Type} (l : List A) {v : Int32} {x : A} (h0 : ¬ v < 0) (hl : v.toNatClampNeg < l.length) : Jvm.AM.st l v x = some (l.set v.toNatClampNeg x) := by
  unfold Jvm.AM.st; rw [if_neg h0, if_pos hl]
theorem clamp_lt {v : Int32} {n : Nat} (h0 : ¬ v < 0) (h1 : v < Int32.ofNat n) (hn : n < 2147483648) : v.toNatClampNeg < n := by
  obtain ⟨e, hl⟩ := eq_ofNat h0
  rw [e] at h1
  exact (ofNat_lt hl hn).mp h1
theorem clamp_inj {v w : Int32} (h0 : ¬ v < 0) (h1 : ¬ w < 0) : v.toNatClampNeg = w.toNatClampNeg ↔ v = w := by
  constructor
  · intro h
    have a := toInt_clamp h0
    have b := toInt_clamp h1
    exact Int32.toInt_inj.mp (by omega)
  · intro h; rw [h]
end Jvm.PL
namespace Jvm.PL
open Jvm.AM
/-- all but the named fields and arrays is as it was -/
def Fx (I L A B : List Nat) (s s' : S) : Prop := (∀ f, f ∉ I → gI s' f = gI s f) ∧ (∀ f, f ∉ L → gL s' f = gL s f) ∧ (∀ f, f ∉ A → gA s' f = gA s f) ∧ (∀ f, f ∉ B → gB s' f = gB s f)
theorem Fx.refl (I L A B : List Nat) (s : S) : Fx I L A B s s := ⟨fun _ _ => rfl, fun _ _ => rfl, fun _ _ => rfl, fun _ _ => rfl⟩
theorem Fx.trans {I L A B : List Nat} {s t u : S} (h : Fx I L A B s t) (k : Fx I L A B t u) : Fx I L A B s u :=
  ⟨fun f q => (k.1 f q).trans (h.1 f q), fun f q => (k.2.1 f q).trans (h.2.1 f q), fun f q => (k.2.2.1 f q).trans (h.2.2.1 f q), fun f q => (k.2.2.2 f q).trans (h.2.2.2 f q)⟩
theorem Fx.mono {I L A B I' L' A' B' : List Nat} {s t : S} (h : Fx I L A B s t) (a : ∀ f ∈ I, f ∈ I') (b : ∀ f ∈ L, f ∈ L') (c : ∀ f ∈ A, f ∈ A') (d : ∀ f ∈ B, f ∈ B') : Fx I' L' A' B' s t :=
  ⟨fun f q => h.1 f fun x => q (a f x), fun f q => h.2.1 f fun x => q (b f x), fun f q => h.2.2.1 f fun x => q (c f x), fun f q => h.2.2.2 f fun x => q (d f x)⟩
theorem Fx.sA {I L A B : List Nat} {s t : S} {f : Nat} {l : List Int32} (h : Fx I L A B s t) (hf : f ∈ A) : Fx I L A B s (Jvm.AM.sA t f l) :=
  ⟨fun g q => (gI_sA _ _ _ _).trans (h.1 g q), fun g q => (gL_sA _ _ _ _).trans (h.2.1 g q), fun g q => by rw [gA_sA, if_neg (fun e : g = f => q (e ▸ hf))]; exact h.2.2.1 g q, fun g q => (gB_sA _ _ _ _).trans (h.2.2.2 g q)⟩
theorem Fx.sI {I L A B : List Nat} {s t : S} {f : Nat} {l : Int32} (h : Fx I L A B s t) (hf : f ∈ I) : Fx I L A B s (Jvm.AM.sI t f l) :=
  ⟨fun g q => by rw [gI_sI, if_neg (fun e : g = f => q (e ▸ hf))]; exact h.1 g q, fun g q => (gL_sI _ _ _ _).trans (h.2.1 g q), fun g q => (gA_sI _ _ _ _).trans (h.2.2.1 g q), fun g q => (gB_sI _ _ _ _).trans (h.2.2.2 g q)⟩
theorem Fx.sL {I L A B : List Nat} {s t : S} {f : Nat} {l : Int64} (h : Fx I L A B s t) (hf : f ∈ L) : Fx I L A B s (Jvm.AM.sL t f l) :=
  ⟨fun g q => (gI_sL _ _ _ _).trans (h.1 g q), fun g q => by rw [gL_sL, if_neg (fun e : g = f => q (e ▸ hf))]; exact h.2.1 g q, fun g q => (gA_sL _ _ _ _).trans (h.2.2.1 g q), fun g q => (gB_sL _ _ _ _).trans (h.2.2.2 g q)⟩
theorem Fx.sB {I L A B : List Nat} {s t : S} {f : Nat} {l : List Int64} (h : Fx I L A B s t) (hf : f ∈ B) : Fx I L A B s (Jvm.AM.sB t f l) :=
  ⟨fun g q => (gI_sB _ _ _ _).trans (h.1 g q), fun g q => (gL_sB _ _ _ _).trans (h.2.1 g q), fun g q => (gA_sB _ _ _ _).trans (h.2.2.1 g q), fun g q => by rw [gB_sB, if_neg (fun e : g = f => q (e ▸ hf))]; exact h.2.2.2 g q⟩
theorem ofNat_add' (a b : Nat) : Int32.ofNat a + Int32.ofNat b = Int32.ofNat (a + b) := (Int32.ofNat_add a b).symm
/-- the first k entries are x -/
def Upto {A : Type} (l : List A) (k : Nat) (x : A) : Prop := ∀ i, i < k → l[i]? = some x
theorem Upto.zero {A : Type} (l : List A) (x : A) : Upto l 0 x := fun _ h => absurd h (Nat.not_lt_zero _)
theorem Upto.set {A : Type} {l : List A} {k : Nat} {x : A} (h : Upto l k x) (hk : k < l.length) : Upto (l.set k x) (k + 1) x := fun i hi => by
  by_cases e : i = k
  · subst e; simp [hk]
  · rw [List.getElem?_set_ne (Ne.symm e)]; exact h i (by omega)
theorem Upto.all {A : Type} {l : List A} {k : Nat} {x : A} (h : Upto l k x) (hk : l.length = k) : l = rep k x := by
  apply List.ext_getElem?
  intro i
  rw [rep_get]
  by_cases q : i < k
  · rw [if_pos q]; exact h i q
  · rw [if_neg q, List.getElem?_eq_none (by omega)]
end Jvm.PL
namespace Jvm.PL
open Jvm.AM
/-- a loop by its invariant; m: the turns that are left -/
theorem run_loop {A B : Type} (L : Nat → A → B) (F : A → B) (I : Nat → A → Prop) (h : ∀ n m a, I (m + 1) a → ∃ a', L (n + 1) a = L n a' ∧ I m a') (h0 : ∀ n a, I 0 a → L (n + 1) a = F a) : ∀ m n a, m < n → I m a → ∃ a', L n a = F a' ∧ I 0 a'
  | 0, n + 1, a, _, i => ⟨a, h0 n a i, i⟩
  | m + 1, n + 1, a, q, i => by
    obtain ⟨a', e, i'⟩ := h n m a i
    obtain ⟨a'', e', i''⟩ := run_loop L F I h h0 m n a' (by omega) i'
    exact ⟨a'', e.trans e', i''⟩
/-- 'for k in 0 .. N' -/
theorem run_for {B : Type} (L : Nat → Int32 → S → B) (F : S → B) (N : Nat) (I : Nat → S → Prop) (h : ∀ n k s, k < N → I k s → ∃ s', L (n + 1) (Int32.ofNat k) s = L n (Int32.ofNat (k + 1)) s' ∧ I (k + 1) s') (h0 : ∀ n s, I N s → L (n + 1) (Int32.ofNat N) s = F s) (n : Nat) (s : S) (hn : N < n) (i : I 0 s) :
    ∃ s', L n (Int32.ofNat 0) s = F s' ∧ I N s' := by
  obtain ⟨a, e, k, hk, ea, ia⟩ := run_loop (fun n (a : Int32 × S) => L n a.1 a.2) (fun a => F a.2) (fun m a => ∃ k, k + m = N ∧ a.1 = Int32.ofNat k ∧ I k a.2)
    (fun n m a ⟨k, h1, h2, h3⟩ => by
      obtain ⟨s', e, i'⟩ := h n k a.2 (by omega) h3
      exact ⟨(Int32.ofNat (k + 1), s'), by show L (n + 1) a.1 a.2 = _; rw [h2]; exact e, k + 1, by omega, rfl, i'⟩)
    (fun n a ⟨k, h1, h2, h3⟩ => by
      have : k = N := by omega
      subst this
      show L (n + 1) a.1 a.2 = _; rw [h2]; exact h0 n a.2 h3) N n (Int32.ofNat 0, s) hn ⟨0, by omega, rfl, i⟩
  have : k = N := by omega
  subst this
  exact ⟨a.2, e, ia⟩
end Jvm.PL
namespace Jvm.PL
open Jvm.AM
/-- the end test of a loop over a script -/
theorem len_lt {n k c : Nat} (hn : n ≤ 100000) (hk : k ≤ 100000) (hc : c ≤ 100000) : (n.toInt32 - Int32.ofNat c) < Int32.ofNat k ↔ n < k + c := by
  rw [Int32.lt_iff_toInt_lt, Int32.toInt_sub, show n.toInt32 = Int32.ofNat n from rfl, ofNat_toInt (by omega), ofNat_toInt (by omega), ofNat_toInt (by omega)]
  have : ((n : Int) - c).bmod (2 ^ 32) = n - c := by
    rw [Int.bmod_eq_of_le] <;> omega
  rw [this]; omega
/-- a loop over a script, c entries a turn: it ends in what every way out says -/
theorem run_script {A B : Type} (L : Nat → Int32 → A → B) (c len : Nat) (hc : 0 < c) (P : B → Prop) (I : Nat → A → Prop) (h : ∀ n k a, k + c ≤ len → I k a → P (L (n + 1) (Int32.ofNat k) a) ∨ ∃ a', L (n + 1) (Int32.ofNat k) a = L n (Int32.ofNat (k + c)) a' ∧ I (k + c) a') (h0 : ∀ n k a, k ≤ len → len < k + c → I k a → P (L (n + 1) (Int32.ofNat k) a)) : ∀ n k a, len < n + k → k ≤ len → I k a → P (L n (Int32.ofNat k) a)
  | 0, k, a, hn, hk, i => by omega
  | n + 1, k, a, hn, hk, i => by
    by_cases q : k + c ≤ len
    · rcases h n k a q i with p | ⟨a', e, i'⟩
      · exact p
      · rw [e]; exact run_script L c len hc P I h h0 n (k + c) a' (by omega) q i'
    · exact h0 n k a hk (by omega) i
theorem ix_some {A : Type} (l : List A) {k : Nat} (hk : k < 2147483648) (hl : k < l.length) : ∃ x, ix l (Int32.ofNat k) = some x := ⟨l[k], by rw [ix_ofNat _ hk, List.getElem?_eq_getElem hl]⟩
theorem ofNat_lit (a b : Nat) : Int32.ofNat a + (OfNat.ofNat b : Int32) = Int32.ofNat (a + b) := ofNat_add' a b
end Jvm.PL
namespace Jvm.PL
open Jvm.AM
theorem upd_same {A : Type} (g : Nat → A) (f : Nat) (a b : A) : aupd (aupd g f a) f b = aupd g f b := by
  funext x; unfold aupd; by_cases q : x = f <;> simp [q]
theorem upd_comm {A : Type} (g : Nat → A) {f h : Nat} (n : f ≠ h) (a b : A) : aupd (aupd g f a) h b = aupd (aupd g h b) f a := by
  funext x; unfold aupd
  by_cases q : x = f
  · have : ¬ f = h := n
    simp [q, this]
  · by_cases r : x = h
    · rw [if_pos r, if_neg q, if_pos r]
    · rw [if_neg r, if_neg q, if_neg q, if_neg r]
theorem sA_same (s : S) (f : Nat) (a b : List Int32) : Jvm.AM.sA (Jvm.AM.sA s f a) f b = Jvm.AM.sA s f b := by
  unfold Jvm.AM.sA; simp only [upd_same]
theorem sA_comm (s : S) {f h : Nat} (n : f ≠ h) (a b : List Int32) : Jvm.AM.sA (Jvm.AM.sA s f a) h b = Jvm.AM.sA (Jvm.AM.sA s h b) f a := by
  unfold Jvm.AM.sA; simp only; rw [upd_comm _ n]
end Jvm.PL
/-! ## rows of bits -/
namespace Jvm.PL
open Jvm.AM Jvm.Free
def bt (w : Int32) (y : Nat) : Bool := w.toBitVec.getLsbD y
theorem bt_zero (y : Nat) : bt 0 y = false := by simp [bt]
theorem bt_or (a b : Int32) (y : Nat) : bt (a ||| b) y = (bt a y || bt b y) := by simp [bt]
theorem bt_and (a b : Int32) (y : Nat) : bt (a &&& b) y = (bt a y && bt b y) := by simp [bt]
theorem bt_ge (w : Int32) {y : Nat} (h : 32 ≤ y) : bt w y = false := by unfold bt; exact BitVec.getLsbD_of_ge _ _ h
theorem bt_m1 {y : Nat} (h : y < 32) : bt (-1) y = true := by
  unfold bt
  rw [show (-1 : Int32).toBitVec = BitVec.allOnes 32 from rfl, BitVec.getLsbD_allOnes]
  simp [h]
theorem bt_not (a : Int32) {y : Nat} (h : y < 32) : bt (a ^^^ (-1)) y = !bt a y := by
  have := bt_m1 h
  unfold bt at *
  rw [Int32.toBitVec_xor, BitVec.getLsbD_xor, this]; simp
theorem bt_andn (a b : Int32) (y : Nat) : bt (a &&& (b ^^^ (-1))) y = (bt a y && !bt b y) := by
  rw [bt_and]
  by_cases h : y < 32
  · rw [bt_not b h]
  · rw [bt_ge a (by omega)]; simp
theorem bt_ext {a b : Int32} (h : ∀ y, y < 32 → bt a y = bt b y) : a = b := by
  apply Int32.toBitVec_inj.mp
  apply BitVec.eq_of_getLsbD_eq
  intro i hi
  exact h i hi
theorem bt_eq0 {w : Int32} : w = 0 ↔ ∀ y, y < 32 → bt w y = false := by
  constructor
  · rintro rfl y _; exact bt_zero y
  · intro h; exact bt_ext fun y hy => by rw [h y hy, bt_zero]
theorem ushr_bit (w : Int32) {y : Nat} (hy : y < 32) : (XT.ushr w (Int32.ofNat y)).toBitVec = w.toBitVec >>> y := by
  unfold XT.ushr
  have h1 : ((Int32.ofNat y &&& 31).toUInt32.toBitVec).toNat = y := by
    show ((Int32.ofNat y &&& 31).toBitVec).toNat = y
    rw [Int32.toBitVec_and, BitVec.toNat_and]
    have e1 : (Int32.ofNat y).toBitVec.toNat = y := by
      show (BitVec.ofNat 32 y).toNat = y
      rw [BitVec.toNat_ofNat]; omega
    have e2 : (31 : Int32).toBitVec.toNat = 31 := rfl
    rw [e1, e2, show 31 = 2 ^ 5 - 1 from rfl, Nat.and_two_pow_sub_one_eq_mod]; omega
  show (w.toUInt32 >>> (Int32.ofNat y &&& 31).toUInt32).toBitVec = _
  rw [UInt32.toBitVec_shiftRight]
  show w.toBitVec >>> ((Int32.ofNat y &&& 31).toUInt32.toBitVec % 32) = _
  rw [BitVec.ushiftRight_eq']
  congr 1
  rw [BitVec.toNat_umod, h1]
  show y % 32 = y
  omega
theorem and1 (w : Int32) : (w &&& 1 = 0) ↔ bt w 0 = false := by
  constructor
  · intro h
    have : bt (w &&& 1) 0 = false := by rw [h, bt_zero]
    rw [bt_and] at this
    simpa [show bt 1 0 = true from rfl] using this
  · intro h
    refine bt_ext fun y hy => ?_
    rw [bt_and, bt_zero]
    cases y with
    | zero => rw [h]; rfl
    | succ y =>
      have : bt 1 (y + 1) = false := by
        unfold bt
        show (1#32).getLsbD (y + 1) = false
        simp [BitVec.getLsbD_one]
      rw [this]; simp
theorem test_bit (w : Int32) {y : Nat} (hy : y < 32) : (XT.ushr w (Int32.ofNat y) &&& 1 = 0) ↔ bt w y = false := by
  rw [and1]
  unfold bt
  rw [ushr_bit w hy]; simp
theorem shl_bit {b : Nat} (hb : b < 32) (y : Nat) : bt ((1 : Int32) <<< (Int32.ofNat b &&& 31)) y = decide (y = b) := by
  have h1 : (Int32.ofNat b &&& 31) = Int32.ofNat b := by
    apply Int32.toBitVec_inj.mp
    rw [Int32.toBitVec_and]
    apply BitVec.eq_of_toNat_eq
    rw [BitVec.toNat_and]
    have e1 : (Int32.ofNat b).toBitVec.toNat = b := by
      show (BitVec.ofNat 32 b).toNat = b
      rw [BitVec.toNat_ofNat]; omega
    have e2 : (31 : Int32).toBitVec.toNat = 31 := rfl
    rw [e1, e2, show 31 = 2 ^ 5 - 1 from rfl, Nat.and_two_pow_sub_one_eq_mod]; omega
  rw [h1]
  unfold bt
  have e : ((1 : Int32) <<< Int32.ofNat b).toBitVec = (1#32) <<< b := by
    rw [Int32.toBitVec_shiftLeft]
    show (1#32) <<< ((Int32.ofNat b).toBitVec.smod 32) = _
    have : (Int32.ofNat b).toBitVec.smod 32 = BitVec.ofNat 32 b := by
      have hz : ∀ b : Fin 32, (Int32.ofNat b.val).toBitVec.smod 32 = BitVec.ofNat 32 b.val := by decide
      exact hz ⟨b, hb⟩
    rw [this, BitVec.shiftLeft_eq']
    congr 1
    rw [BitVec.toNat_ofNat]; omega
  rw [e]
  simp only [BitVec.getLsbD_shiftLeft, BitVec.getLsbD_one]
  by_cases h : y = b
  · subst h; simp [hb]
  · simp [h]; omega
end Jvm.PL
namespace Jvm.Pilot.@@N@@
open Jvm Jvm.ClassFile Sem Op Lib Jvm.Free Jvm.Stand Jvm.LawKit Jvm.RoadKit Jvm.AM Jvm.PL Jvm.Pilot.@@N@@.Jvm.D
def ci1 : CI := ("ShadowRedzoneY", 21, [("granuleCount", "I", .int), ("redzoneGranules", "I", .int), ("quarantineBudget", "I", .int), ("arenaSize", "I", .int), ("ringHead", "I", .int), ("ringCount", "I", .int), ("ringBytes", "I", .int), ("runCount", "I", .int), ("liveChunks", "I", .int), ("lastLoaded", "J", .long), ("lastBad", "I", .int), ("errors", "I", .int)], [("data", "[B", .byte, 256), ("shadowOf", "[I", .int, 32), ("ownerOf", "[I", .int, 32), ("chunkStart", "[I", .int, 32), ("chunkSize", "[I", .int, 32), ("chunkState", "[B", .byte, 32), ("ring", "[I", .int, 32), ("runStart", "[I", .int, 32), ("runLength", "[I", .int, 32)])
def PP : PI := (tables_1, ci1)
def BIG : Nat := 1000000
def m0 : Meth := (⟨"ShadowRedzoneY", "clamp", "(III)I"⟩, prog_1_method_17_code, 4, (some .int), { frames := 0, cells := 0, slots := 0, locals := 0 }, 1, false, 0, 0)
def m1 : Meth := (⟨"ShadowRedzoneY", "resetArena", "()V"⟩, prog_1_method_18_code, 2, none, { frames := 0, cells := 0, slots := 0, locals := 0 }, 1, false, 0, 0)
def m2 : Meth := (⟨"ShadowRedzoneY", "resetChunks", "()V"⟩, prog_1_method_19_code, 2, none, { frames := 0, cells := 0, slots := 0, locals := 0 }, 1, false, 0, 0)
def m3 : Meth := (⟨"ShadowRedzoneY", "resetQuarantine", "()V"⟩, prog_1_method_20_code, 2, none, { frames := 0, cells := 0, slots := 0, locals := 0 }, 1, false, 0, 0)
def m4 : Meth := (⟨"ShadowRedzoneY", "resetRuns", "()V"⟩, prog_1_method_21_code, 2, none, { frames := 0, cells := 0, slots := 0, locals := 0 }, 1, false, 0, 0)
def m5 : Meth := (⟨"ShadowRedzoneY", "<init>", "(III)V"⟩, prog_1_method_1_code, 4, none, { frames := 1, cells := 9, slots := 512, locals := 16 }, 1, true, 1, 21)
def m6 : Meth := (⟨"ShadowRedzoneY", "userGranulesFor", "(I)I"⟩, prog_1_method_26_code, 2, (some .int), { frames := 0, cells := 0, slots := 0, locals := 0 }, 1, false, 0, 0)
def m7 : Meth := (⟨"ShadowRedzoneY", "spanFor", "(I)I"⟩, prog_1_method_27_code, 2, (some .int), { frames := 1, cells := 0, slots := 0, locals := 14 }, 1, false, 0, 0)
def m8 : Meth := (⟨"ShadowRedzoneY", "findFitRun", "(I)I"⟩, prog_1_method_45_code, 3, (some .int), { frames := 0, cells := 0, slots := 0, locals := 0 }, 1, false, 0, 0)
def m9 : Meth := (⟨"ShadowRedzoneY", "findRoom", "(I)I"⟩, prog_1_method_44_code, 4, (some .int), { frames := 1, cells := 0, slots := 0, locals := 14 }, 1, false, 0, 0)
def m10 : Meth := (⟨"ShadowRedzoneY", "findUnusedSlot", "()I"⟩, prog_1_method_25_code, 2, (some .int), { frames := 0, cells := 0, slots := 0, locals := 0 }, 1, false, 0, 0)
def m11 : Meth := (⟨"ShadowRedzoneY", "carveFront", "(II)V"⟩, prog_1_method_46_code, 3, none, { frames := 0, cells := 0, slots := 0, locals := 0 }, 1, false, 0, 0)
def m12 : Meth := (⟨"ShadowRedzoneY", "setOwner", "(III)V"⟩, prog_1_method_34_code, 6, none, { frames := 0, cells := 0, slots := 0, locals := 0 }, 1, false, 0, 0)
def m13 : Meth := (⟨"ShadowRedzoneY", "validSlot", "(I)Z"⟩, prog_1_method_22_code, 2, (some .boolean), { frames := 0, cells := 0, slots := 0, locals := 0 }, 1, false, 0, 0)
def m14 : Meth := (⟨"ShadowRedzoneY", "userGranule", "(I)I"⟩, prog_1_method_29_code, 2, (some .int), { frames := 1, cells := 0, slots := 0, locals := 13 }, 1, false, 0, 0)
def m15 : Meth := (⟨"ShadowRedzoneY", "rightGranule", "(I)I"⟩, prog_1_method_31_code, 3, (some .int), { frames := 2, cells := 0, slots := 0, locals := 26 }, 1, false, 0, 0)
def m16 : Meth := (⟨"ShadowRedzoneY", "paintRange", "(III)V"⟩, prog_1_method_33_code, 6, none, { frames := 0, cells := 0, slots := 0, locals := 0 }, 1, false, 0, 0)
def m17 : Meth := (⟨"ShadowRedzoneY", "paintLiveChunk", "(I)V"⟩, prog_1_method_35_code, 9, none, { frames := 3, cells := 0, slots := 0, locals := 40 }, 1, false, 0, 0)
def m18 : Meth := (⟨"ShadowRedzoneY", "userAddressOf", "(I)I"⟩, prog_1_method_30_code, 3, (some .int), { frames := 2, cells := 0, slots := 0, locals := 26 }, 1, false, 0, 0)
def m19 : Meth := (⟨"ShadowRedzoneY", "zeroRequested", "(I)V"⟩, prog_1_method_37_code, 6, none, { frames := 3, cells := 0, slots := 0, locals := 40 }, 1, false, 0, 0)
def m20 : Meth := (⟨"ShadowRedzoneY", "createChunk", "(III)I"⟩, prog_1_method_38_code, 5, (some .int), { frames := 4, cells := 0, slots := 0, locals := 60 }, 1, false, 0, 0)
def m21 : Meth := (⟨"ShadowRedzoneY", "alloc", "(I)I"⟩, prog_1_method_2_code, 6, (some .int), { frames := 5, cells := 0, slots := 0, locals := 76 }, 1, false, 0, 0)
def m22 : Meth := (⟨"ShadowRedzoneY", "liveCount", "()I"⟩, prog_1_method_11_code, 1, (some .int), { frames := 0, cells := 0, slots := 0, locals := 0 }, 1, false, 0, 0)
def m23 : Meth := (⟨"ShadowRedzoneY", "isAccessSize", "(I)Z"⟩, prog_1_method_51_code, 2, (some .boolean), { frames := 0, cells := 0, slots := 0, locals := 0 }, 1, false, 0, 0)
def m24 : Meth := (⟨"ShadowRedzoneY", "kindForShadow", "(II)I"⟩, prog_1_method_55_code, 3, (some .int), { frames := 0, cells := 0, slots := 0, locals := 0 }, 1, false, 0, 0)
def m25 : Meth := (⟨"ShadowRedzoneY", "byteKind", "(I)I"⟩, prog_1_method_54_code, 5, (some .int), { frames := 1, cells := 0, slots := 0, locals := 14 }, 1, false, 0, 0)
def m26 : Meth := (⟨"ShadowRedzoneY", "recordError", "(I)V"⟩, prog_1_method_53_code, 2, none, { frames := 0, cells := 0, slots := 0, locals := 0 }, 1, false, 0, 0)
def m27 : Meth := (⟨"ShadowRedzoneY", "checkAccess", "(II)I"⟩, prog_1_method_52_code, 6, (some .int), { frames := 2, cells := 0, slots := 0, locals := 30 }, 1, false, 0, 0)
def m28 : Meth := (⟨"ShadowRedzoneY", "writeLittleEndian", "(IIJ)V"⟩, prog_1_method_57_code, 7, none, { frames := 0, cells := 0, slots := 0, locals := 0 }, 1, false, 0, 0)
def m29 : Meth := (⟨"ShadowRedzoneY", "store", "(IIJ)I"⟩, prog_1_method_5_code, 6, (some .int), { frames := 3, cells := 0, slots := 0, locals := 47 }, 1, false, 0, 0)
def m30 : Meth := (⟨"ShadowRedzoneY", "readLittleEndian", "(II)J"⟩, prog_1_method_56_code, 9, (some .long), { frames := 0, cells := 0, slots := 0, locals := 0 }, 1, false, 0, 0)
def m31 : Meth := (⟨"ShadowRedzoneY", "load", "(II)I"⟩, prog_1_method_4_code, 4, (some .int), { frames := 3, cells := 0, slots := 0, locals := 47 }, 1, false, 0, 0)
def m32 : Meth := (⟨"ShadowRedzoneY", "lastValue", "()J"⟩, prog_1_method_6_code, 1, (some .long), { frames := 0, cells := 0, slots := 0, locals := 0 }, 1, false, 0, 0)
def m33 : Meth := (⟨"ShadowRedzoneY", "lastBadAddress", "()I"⟩, prog_1_method_7_code, 1, (some .int), { frames := 0, cells := 0, slots := 0, locals := 0 }, 1, false, 0, 0)
def m34 : Meth := (⟨"ShadowRedzoneY", "slotForUserAddress", "(I)I"⟩, prog_1_method_32_code, 4, (some .int), { frames := 2, cells := 0, slots := 0, locals := 26 }, 1, false, 0, 0)
def m35 : Meth := (⟨"ShadowRedzoneY", "isLive", "(I)Z"⟩, prog_1_method_23_code, 2, (some .boolean), { frames := 1, cells := 0, slots := 0, locals := 13 }, 1, false, 0, 0)
def m36 : Meth := (⟨"ShadowRedzoneY", "userSize", "(I)I"⟩, prog_1_method_10_code, 3, (some .int), { frames := 3, cells := 0, slots := 0, locals := 41 }, 1, false, 0, 0)
def m37 : Meth := (⟨"ShadowRedzoneY", "isQuarantined", "(I)Z"⟩, prog_1_method_24_code, 2, (some .boolean), { frames := 1, cells := 0, slots := 0, locals := 13 }, 1, false, 0, 0)
def m38 : Meth := (⟨"ShadowRedzoneY", "paintQuarantined", "(I)V"⟩, prog_1_method_36_code, 5, none, { frames := 2, cells := 0, slots := 0, locals := 26 }, 1, false, 0, 0)
def m39 : Meth := (⟨"ShadowRedzoneY", "weightOf", "(I)I"⟩, prog_1_method_28_code, 3, (some .int), { frames := 2, cells := 0, slots := 0, locals := 28 }, 1, false, 0, 0)
def m40 : Meth := (⟨"ShadowRedzoneY", "enqueue", "(I)V"⟩, prog_1_method_41_code, 3, none, { frames := 3, cells := 0, slots := 0, locals := 44 }, 1, false, 0, 0)
def m41 : Meth := (⟨"ShadowRedzoneY", "quarantineChunk", "(I)V"⟩, prog_1_method_39_code, 2, none, { frames := 4, cells := 0, slots := 0, locals := 58 }, 1, false, 0, 0)
def m42 : Meth := (⟨"ShadowRedzoneY", "trimToBudget", "()V"⟩, prog_1_method_43_code, 2, none, { frames := 0, cells := 0, slots := 0, locals := 0 }, 1, false, 0, 0)
def m43 : Meth := (⟨"ShadowRedzoneY", "free", "(I)I"⟩, prog_1_method_3_code, 3, (some .int), { frames := 5, cells := 0, slots := 0, locals := 71 }, 1, false, 0, 0)
def m44 : Meth := (⟨"ShadowRedzoneY", "quarantineBytes", "()I"⟩, prog_1_method_13_code, 1, (some .int), { frames := 0, cells := 0, slots := 0, locals := 0 }, 1, false, 0, 0)
def m45 : Meth := (⟨"ShadowRedzoneY", "shadow", "(I)I"⟩, prog_1_method_9_code, 2, (some .int), { frames := 0, cells := 0, slots := 0, locals := 0 }, 1, false, 0, 0)
def m46 : Meth := (⟨"ShadowRedzoneY", "errorCount", "()I"⟩, prog_1_method_8_code, 1, (some .int), { frames := 0, cells := 0, slots := 0, locals := 0 }, 1, false, 0, 0)
def m47 : Meth := (x, code, maxLocals, ret, room_1, 1, true, 0, 0)
theorem ar_0 : (cA PP.2)[0]? = some ("data", "[B", .byte, 256) := rfl
theorem ar_1 : (cA PP.2)[1]? = some ("shadowOf", "[I", .int, 32) := rfl
theorem ar_2 : (cA PP.2)[2]? = some ("ownerOf", "[I", .int, 32) := rfl
theorem ar_3 : (cA PP.2)[3]? = some ("chunkStart", "[I", .int, 32) := rfl
theorem ar_4 : (cA PP.2)[4]? = some ("chunkSize", "[I", .int, 32) := rfl
theorem ar_5 : (cA PP.2)[5]? = some ("chunkState", "[B", .byte, 32) := rfl
theorem ar_6 : (cA PP.2)[6]? = some ("ring", "[I", .int, 32) := rfl
theorem ar_7 : (cA PP.2)[7]? = some ("runStart", "[I", .int, 32) := rfl
theorem ar_8 : (cA PP.2)[8]? = some ("runLength", "[I", .int, 32) := rfl
theorem fa_7 : FldA PP 7 0 .byte := ⟨_, _, _, rfl, List.mem_of_getElem? (i := 10) rfl⟩
theorem fa_13 : FldA PP 13 1 .int := ⟨_, _, _, rfl, List.mem_of_getElem? (i := 13) rfl⟩
theorem fa_17 : FldA PP 17 2 .int := ⟨_, _, _, rfl, List.mem_of_getElem? (i := 15) rfl⟩
theorem fa_20 : FldA PP 20 3 .int := ⟨_, _, _, rfl, List.mem_of_getElem? (i := 17) rfl⟩
theorem fa_23 : FldA PP 23 4 .int := ⟨_, _, _, rfl, List.mem_of_getElem? (i := 19) rfl⟩
theorem fa_26 : FldA PP 26 5 .byte := ⟨_, _, _, rfl, List.mem_of_getElem? (i := 21) rfl⟩
theorem fa_29 : FldA PP 29 6 .int := ⟨_, _, _, rfl, List.mem_of_getElem? (i := 23) rfl⟩
theorem fa_32 : FldA PP 32 7 .int := ⟨_, _, _, rfl, List.mem_of_getElem? (i := 25) rfl⟩
theorem fa_35 : FldA PP 35 8 .int := ⟨_, _, _, rfl, List.mem_of_getElem? (i := 27) rfl⟩
theorem fs_42 : FldS PP 42 0 .int := ⟨_, _, rfl, List.mem_of_getElem? (i := 33) rfl⟩
theorem fs_46 : FldS PP 46 1 .int := ⟨_, _, rfl, List.mem_of_getElem? (i := 35) rfl⟩
theorem fs_49 : FldS PP 49 2 .int := ⟨_, _, rfl, List.mem_of_getElem? (i := 37) rfl⟩
theorem fs_52 : FldS PP 52 3 .int := ⟨_, _, rfl, List.mem_of_getElem? (i := 39) rfl⟩
theorem fs_67 : FldS PP 67 8 .int := ⟨_, _, rfl, List.mem_of_getElem? (i := 65) rfl⟩
theorem fs_70 : FldS PP 70 9 .long := ⟨_, _, rfl, List.mem_of_getElem? (i := 67) rfl⟩
theorem fs_74 : FldS PP 74 10 .int := ⟨_, _, rfl, List.mem_of_getElem? (i := 69) rfl⟩
theorem fs_77 : FldS PP 77 11 .int := ⟨_, _, rfl, List.mem_of_getElem? (i := 71) rfl⟩
theorem fs_130 : FldS PP 130 5 .int := ⟨_, _, rfl, List.mem_of_getElem? (i := 55) rfl⟩
theorem fs_133 : FldS PP 133 6 .int := ⟨_, _, rfl, List.mem_of_getElem? (i := 57) rfl⟩
theorem fs_136 : FldS PP 136 4 .int := ⟨_, _, rfl, List.mem_of_getElem? (i := 53) rfl⟩
theorem fs_145 : FldS PP 145 7 .int := ⟨_, _, rfl, List.mem_of_getElem? (i := 63) rfl⟩
theorem wr_0 (M : Meth) : Wrt PP M 0 := ⟨_, _, _, rfl, Or.inl (List.mem_of_getElem? (i := 34) rfl)⟩
theorem wr_1 (M : Meth) : Wrt PP M 1 := ⟨_, _, _, rfl, Or.inl (List.mem_of_getElem? (i := 36) rfl)⟩
theorem wr_2 (M : Meth) : Wrt PP M 2 := ⟨_, _, _, rfl, Or.inl (List.mem_of_getElem? (i := 38) rfl)⟩
theorem wr_3 (M : Meth) : Wrt PP M 3 := ⟨_, _, _, rfl, Or.inl (List.mem_of_getElem? (i := 40) rfl)⟩
theorem wr_4 (M : Meth) : Wrt PP M 4 := ⟨_, _, _, rfl, Or.inl (List.mem_of_getElem? (i := 54) rfl)⟩
theorem wr_5 (M : Meth) : Wrt PP M 5 := ⟨_, _, _, rfl, Or.inl (List.mem_of_getElem? (i := 56) rfl)⟩
theorem wr_6 (M : Meth) : Wrt PP M 6 := ⟨_, _, _, rfl, Or.inl (List.mem_of_getElem? (i := 58) rfl)⟩
theorem wr_7 (M : Meth) : Wrt PP M 7 := ⟨_, _, _, rfl, Or.inl (List.mem_of_getElem? (i := 64) rfl)⟩
theorem wr_8 (M : Meth) : Wrt PP M 8 := ⟨_, _, _, rfl, Or.inl (List.mem_of_getElem? (i := 66) rfl)⟩
theorem wr_9 (M : Meth) : Wrt PP M 9 := ⟨_, _, _, rfl, Or.inl (List.mem_of_getElem? (i := 68) rfl)⟩
theorem wr_10 (M : Meth) : Wrt PP M 10 := ⟨_, _, _, rfl, Or.inl (List.mem_of_getElem? (i := 70) rfl)⟩
theorem wr_11 (M : Meth) : Wrt PP M 11 := ⟨_, _, _, rfl, Or.inl (List.mem_of_getElem? (i := 72) rfl)⟩
theorem oid_0 : 1 = (cK PP.2 + 1) * 0 + 1 := rfl
theorem pl_0 : plainName "ShadowRedzoneY" = true := by first | (simp [plainName, overriddenIn]; done) | decide +kernel
theorem pl_1 : plainName "ShadowRedzoneYL3" = true := by first | (simp [plainName, overriddenIn]; done) | decide +kernel
theorem hm_0 : (mY m0).cls = cN PP.2 := rfl
theorem hn_0 : 0 < mN m0 := by decide
theorem pd_0 : parseMethodDescriptor (mY m0).desc = some ⟨[.int, .int, .int], (some .int)⟩ := by decide +kernel
theorem hm_1 : (mY m1).cls = cN PP.2 := rfl
theorem hn_1 : 0 < mN m1 := by decide
theorem pd_1 : parseMethodDescriptor (mY m1).desc = some ⟨[], none⟩ := by decide +kernel
theorem hm_2 : (mY m2).cls = cN PP.2 := rfl
theorem hn_2 : 0 < mN m2 := by decide
theorem pd_2 : parseMethodDescriptor (mY m2).desc = some ⟨[], none⟩ := by decide +kernel
theorem hm_3 : (mY m3).cls = cN PP.2 := rfl
theorem hn_3 : 0 < mN m3 := by decide
theorem pd_3 : parseMethodDescriptor (mY m3).desc = some ⟨[], none⟩ := by decide +kernel
theorem hm_4 : (mY m4).cls = cN PP.2 := rfl
theorem hn_4 : 0 < mN m4 := by decide
theorem pd_4 : parseMethodDescriptor (mY m4).desc = some ⟨[], none⟩ := by decide +kernel
theorem hm_5 : (mY m5).cls = cN PP.2 := rfl
theorem hn_5 : 0 < mN m5 := by decide
theorem pd_5 : parseMethodDescriptor (mY m5).desc = some ⟨[.int, .int, .int], none⟩ := by decide +kernel
theorem hm_6 : (mY m6).cls = cN PP.2 := rfl
theorem hn_6 : 0 < mN m6 := by decide
theorem pd_6 : parseMethodDescriptor (mY m6).desc = some ⟨[.int], (some .int)⟩ := by decide +kernel
theorem hm_7 : (mY m7).cls = cN PP.2 := rfl
theorem hn_7 : 0 < mN m7 := by decide
theorem pd_7 : parseMethodDescriptor (mY m7).desc = some ⟨[.int], (some .int)⟩ := by decide +kernel
theorem hm_8 : (mY m8).cls = cN PP.2 := rfl
theorem hn_8 : 0 < mN m8 := by decide
theorem pd_8 : parseMethodDescriptor (mY m8).desc = some ⟨[.int], (some .int)⟩ := by decide +kernel
theorem hm_9 : (mY m9).cls = cN PP.2 := rfl
theorem hn_9 : 0 < mN m9 := by decide
theorem pd_9 : parseMethodDescriptor (mY m9).desc = some ⟨[.int], (some .int)⟩ := by decide +kernel
theorem hm_10 : (mY m10).cls = cN PP.2 := rfl
theorem hn_10 : 0 < mN m10 := by decide
theorem pd_10 : parseMethodDescriptor (mY m10).desc = some ⟨[], (some .int)⟩ := by decide +kernel
theorem hm_11 : (mY m11).cls = cN PP.2 := rfl
theorem hn_11 : 0 < mN m11 := by decide
theorem pd_11 : parseMethodDescriptor (mY m11).desc = some ⟨[.int, .int], none⟩ := by decide +kernel
theorem hm_12 : (mY m12).cls = cN PP.2 := rfl
theorem hn_12 : 0 < mN m12 := by decide
theorem pd_12 : parseMethodDescriptor (mY m12).desc = some ⟨[.int, .int, .int], none⟩ := by decide +kernel
theorem hm_13 : (mY m13).cls = cN PP.2 := rfl
theorem hn_13 : 0 < mN m13 := by decide
theorem pd_13 : parseMethodDescriptor (mY m13).desc = some ⟨[.int], (some .boolean)⟩ := by decide +kernel
theorem hm_14 : (mY m14).cls = cN PP.2 := rfl
theorem hn_14 : 0 < mN m14 := by decide
theorem pd_14 : parseMethodDescriptor (mY m14).desc = some ⟨[.int], (some .int)⟩ := by decide +kernel
theorem hm_15 : (mY m15).cls = cN PP.2 := rfl
theorem hn_15 : 0 < mN m15 := by decide
theorem pd_15 : parseMethodDescriptor (mY m15).desc = some ⟨[.int], (some .int)⟩ := by decide +kernel
theorem hm_16 : (mY m16).cls = cN PP.2 := rfl
theorem hn_16 : 0 < mN m16 := by decide
theorem pd_16 : parseMethodDescriptor (mY m16).desc = some ⟨[.int, .int, .int], none⟩ := by decide +kernel
theorem hm_17 : (mY m17).cls = cN PP.2 := rfl
theorem hn_17 : 0 < mN m17 := by decide
theorem pd_17 : parseMethodDescriptor (mY m17).desc = some ⟨[.int], none⟩ := by decide +kernel
theorem hm_18 : (mY m18).cls = cN PP.2 := rfl
theorem hn_18 : 0 < mN m18 := by decide
theorem pd_18 : parseMethodDescriptor (mY m18).desc = some ⟨[.int], (some .int)⟩ := by decide +kernel
theorem hm_19 : (mY m19).cls = cN PP.2 := rfl
theorem hn_19 : 0 < mN m19 := by decide
theorem pd_19 : parseMethodDescriptor (mY m19).desc = some ⟨[.int], none⟩ := by decide +kernel
theorem hm_20 : (mY m20).cls = cN PP.2 := rfl
theorem hn_20 : 0 < mN m20 := by decide
theorem pd_20 : parseMethodDescriptor (mY m20).desc = some ⟨[.int, .int, .int], (some .int)⟩ := by decide +kernel
theorem hm_21 : (mY m21).cls = cN PP.2 := rfl
theorem hn_21 : 0 < mN m21 := by decide
theorem pd_21 : parseMethodDescriptor (mY m21).desc = some ⟨[.int], (some .int)⟩ := by decide +kernel
theorem hm_22 : (mY m22).cls = cN PP.2 := rfl
theorem hn_22 : 0 < mN m22 := by decide
theorem pd_22 : parseMethodDescriptor (mY m22).desc = some ⟨[], (some .int)⟩ := by decide +kernel
theorem hm_23 : (mY m23).cls = cN PP.2 := rfl
theorem hn_23 : 0 < mN m23 := by decide
theorem pd_23 : parseMethodDescriptor (mY m23).desc = some ⟨[.int], (some .boolean)⟩ := by decide +kernel
theorem hm_24 : (mY m24).cls = cN PP.2 := rfl
theorem hn_24 : 0 < mN m24 := by decide
theorem pd_24 : parseMethodDescriptor (mY m24).desc = some ⟨[.int, .int], (some .int)⟩ := by decide +kernel
theorem hm_25 : (mY m25).cls = cN PP.2 := rfl
theorem hn_25 : 0 < mN m25 := by decide
theorem pd_25 : parseMethodDescriptor (mY m25).desc = some ⟨[.int], (some .int)⟩ := by decide +kernel
theorem hm_26 : (mY m26).cls = cN PP.2 := rfl
theorem hn_26 : 0 < mN m26 := by decide
theorem pd_26 : parseMethodDescriptor (mY m26).desc = some ⟨[.int], none⟩ := by decide +kernel
theorem hm_27 : (mY m27).cls = cN PP.2 := rfl
theorem hn_27 : 0 < mN m27 := by decide
theorem pd_27 : parseMethodDescriptor (mY m27).desc = some ⟨[.int, .int], (some .int)⟩ := by decide +kernel
theorem hm_28 : (mY m28).cls = cN PP.2 := rfl
theorem hn_28 : 0 < mN m28 := by decide
theorem pd_28 : parseMethodDescriptor (mY m28).desc = some ⟨[.int, .int, .long], none⟩ := by decide +kernel
theorem hm_29 : (mY m29).cls = cN PP.2 := rfl
theorem hn_29 : 0 < mN m29 := by decide
theorem pd_29 : parseMethodDescriptor (mY m29).desc = some ⟨[.int, .int, .long], (some .int)⟩ := by decide +kernel
theorem hm_30 : (mY m30).cls = cN PP.2 := rfl
theorem hn_30 : 0 < mN m30 := by decide
theorem pd_30 : parseMethodDescriptor (mY m30).desc = some ⟨[.int, .int], (some .long)⟩ := by decide +kernel
theorem hm_31 : (mY m31).cls = cN PP.2 := rfl
theorem hn_31 : 0 < mN m31 := by decide
theorem pd_31 : parseMethodDescriptor (mY m31).desc = some ⟨[.int, .int], (some .int)⟩ := by decide +kernel
theorem hm_32 : (mY m32).cls = cN PP.2 := rfl
theorem hn_32 : 0 < mN m32 := by decide
theorem pd_32 : parseMethodDescriptor (mY m32).desc = some ⟨[], (some .long)⟩ := by decide +kernel
theorem hm_33 : (mY m33).cls = cN PP.2 := rfl
theorem hn_33 : 0 < mN m33 := by decide
theorem pd_33 : parseMethodDescriptor (mY m33).desc = some ⟨[], (some .int)⟩ := by decide +kernel
theorem hm_34 : (mY m34).cls = cN PP.2 := rfl
theorem hn_34 : 0 < mN m34 := by decide
theorem pd_34 : parseMethodDescriptor (mY m34).desc = some ⟨[.int], (some .int)⟩ := by decide +kernel
theorem hm_35 : (mY m35).cls = cN PP.2 := rfl
theorem hn_35 : 0 < mN m35 := by decide
theorem pd_35 : parseMethodDescriptor (mY m35).desc = some ⟨[.int], (some .boolean)⟩ := by decide +kernel
theorem hm_36 : (mY m36).cls = cN PP.2 := rfl
theorem hn_36 : 0 < mN m36 := by decide
theorem pd_36 : parseMethodDescriptor (mY m36).desc = some ⟨[.int], (some .int)⟩ := by decide +kernel
theorem hm_37 : (mY m37).cls = cN PP.2 := rfl
theorem hn_37 : 0 < mN m37 := by decide
theorem pd_37 : parseMethodDescriptor (mY m37).desc = some ⟨[.int], (some .boolean)⟩ := by decide +kernel
theorem hm_38 : (mY m38).cls = cN PP.2 := rfl
theorem hn_38 : 0 < mN m38 := by decide
theorem pd_38 : parseMethodDescriptor (mY m38).desc = some ⟨[.int], none⟩ := by decide +kernel
theorem hm_39 : (mY m39).cls = cN PP.2 := rfl
theorem hn_39 : 0 < mN m39 := by decide
theorem pd_39 : parseMethodDescriptor (mY m39).desc = some ⟨[.int], (some .int)⟩ := by decide +kernel
theorem hm_40 : (mY m40).cls = cN PP.2 := rfl
theorem hn_40 : 0 < mN m40 := by decide
theorem pd_40 : parseMethodDescriptor (mY m40).desc = some ⟨[.int], none⟩ := by decide +kernel
theorem hm_41 : (mY m41).cls = cN PP.2 := rfl
theorem hn_41 : 0 < mN m41 := by decide
theorem pd_41 : parseMethodDescriptor (mY m41).desc = some ⟨[.int], none⟩ := by decide +kernel
theorem hm_42 : (mY m42).cls = cN PP.2 := rfl
theorem hn_42 : 0 < mN m42 := by decide
theorem pd_42 : parseMethodDescriptor (mY m42).desc = some ⟨[], none⟩ := by decide +kernel
theorem hm_43 : (mY m43).cls = cN PP.2 := rfl
theorem hn_43 : 0 < mN m43 := by decide
theorem pd_43 : parseMethodDescriptor (mY m43).desc = some ⟨[.int], (some .int)⟩ := by decide +kernel
theorem hm_44 : (mY m44).cls = cN PP.2 := rfl
theorem hn_44 : 0 < mN m44 := by decide
theorem pd_44 : parseMethodDescriptor (mY m44).desc = some ⟨[], (some .int)⟩ := by decide +kernel
theorem hm_45 : (mY m45).cls = cN PP.2 := rfl
theorem hn_45 : 0 < mN m45 := by decide
theorem pd_45 : parseMethodDescriptor (mY m45).desc = some ⟨[.int], (some .int)⟩ := by decide +kernel
theorem hm_46 : (mY m46).cls = cN PP.2 := rfl
theorem hn_46 : 0 < mN m46 := by decide
theorem pd_46 : parseMethodDescriptor (mY m46).desc = some ⟨[], (some .int)⟩ := by decide +kernel
theorem hn_47 : 0 < mN m47 := by decide
theorem d0_0 : decode (mB m0) 0 = .ok (.iload_n 1, 1) := by decide +kernel
theorem d0_1 : decode (mB m0) 1 = .ok (.iload_n 2, 1) := by decide +kernel
theorem d0_2 : decode (mB m0) 2 = .ok (.if_icmp .ge 5, 3) := by decide +kernel
theorem d0_5 : decode (mB m0) 5 = .ok (.iload_n 2, 1) := by decide +kernel
theorem d0_6 : decode (mB m0) 6 = .ok (.ireturn, 1) := by decide +kernel
theorem d0_7 : decode (mB m0) 7 = .ok (.iload_n 1, 1) := by decide +kernel
theorem d0_8 : decode (mB m0) 8 = .ok (.iload_n 3, 1) := by decide +kernel
theorem d0_9 : decode (mB m0) 9 = .ok (.if_icmp .le 5, 3) := by decide +kernel
theorem d0_12 : decode (mB m0) 12 = .ok (.iload_n 3, 1) := by decide +kernel
theorem d0_13 : decode (mB m0) 13 = .ok (.ireturn, 1) := by decide +kernel
theorem d0_14 : decode (mB m0) 14 = .ok (.iload_n 1, 1) := by decide +kernel
theorem d0_15 : decode (mB m0) 15 = .ok (.ireturn, 1) := by decide +kernel
theorem d1_0 : decode (mB m1) 0 = .ok (.iconst 0, 1) := by decide +kernel
theorem d1_1 : decode (mB m1) 1 = .ok (.istore_n 1, 1) := by decide +kernel
theorem d1_2 : decode (mB m1) 2 = .ok (.iload_n 1, 1) := by decide +kernel
theorem d1_3 : decode (mB m1) 3 = .ok (.bipush 32, 2) := by decide +kernel
theorem d1_5 : decode (mB m1) 5 = .ok (.if_icmp .ge 25, 3) := by decide +kernel
theorem d1_8 : decode (mB m1) 8 = .ok (.aload_n 0, 1) := by decide +kernel
theorem d1_9 : decode (mB m1) 9 = .ok (.getfield 13, 3) := by decide +kernel
theorem d1_12 : decode (mB m1) 12 = .ok (.iload_n 1, 1) := by decide +kernel
theorem d1_13 : decode (mB m1) 13 = .ok (.sipush 254, 3) := by decide +kernel
theorem d1_16 : decode (mB m1) 16 = .ok (.iastore, 1) := by decide +kernel
theorem d1_17 : decode (mB m1) 17 = .ok (.aload_n 0, 1) := by decide +kernel
theorem d1_18 : decode (mB m1) 18 = .ok (.getfield 17, 3) := by decide +kernel
theorem d1_21 : decode (mB m1) 21 = .ok (.iload_n 1, 1) := by decide +kernel
theorem d1_22 : decode (mB m1) 22 = .ok (.iconst (-1), 1) := by decide +kernel
theorem d1_23 : decode (mB m1) 23 = .ok (.iastore, 1) := by decide +kernel
theorem d1_24 : decode (mB m1) 24 = .ok (.iinc 1 1, 3) := by decide +kernel
theorem d1_27 : decode (mB m1) 27 = .ok (.goto (-25), 3) := by decide +kernel
theorem d1_30 : decode (mB m1) 30 = .ok (.iconst 0, 1) := by decide +kernel
theorem d1_31 : decode (mB m1) 31 = .ok (.istore_n 1, 1) := by decide +kernel
theorem d1_32 : decode (mB m1) 32 = .ok (.iload_n 1, 1) := by decide +kernel
theorem d1_33 : decode (mB m1) 33 = .ok (.sipush 256, 3) := by decide +kernel
theorem d1_36 : decode (mB m1) 36 = .ok (.if_icmp .ge 16, 3) := by decide +kernel
theorem d1_39 : decode (mB m1) 39 = .ok (.aload_n 0, 1) := by decide +kernel
theorem d1_40 : decode (mB m1) 40 = .ok (.getfield 7, 3) := by decide +kernel
theorem d1_43 : decode (mB m1) 43 = .ok (.iload_n 1, 1) := by decide +kernel
theorem d1_44 : decode (mB m1) 44 = .ok (.iconst 0, 1) := by decide +kernel
theorem d1_45 : decode (mB m1) 45 = .ok (.bastore, 1) := by decide +kernel
theorem d1_46 : decode (mB m1) 46 = .ok (.iinc 1 1, 3) := by decide +kernel
theorem d1_49 : decode (mB m1) 49 = .ok (.goto (-17), 3) := by decide +kernel
theorem d1_52 : decode (mB m1) 52 = .ok (.return_, 1) := by decide +kernel
theorem d2_0 : decode (mB m2) 0 = .ok (.iconst 0, 1) := by decide +kernel
theorem d2_1 : decode (mB m2) 1 = .ok (.istore_n 1, 1) := by decide +kernel
theorem d2_2 : decode (mB m2) 2 = .ok (.iload_n 1, 1) := by decide +kernel
theorem d2_3 : decode (mB m2) 3 = .ok (.bipush 32, 2) := by decide +kernel
theorem d2_5 : decode (mB m2) 5 = .ok (.if_icmp .ge 30, 3) := by decide +kernel
theorem d2_8 : decode (mB m2) 8 = .ok (.aload_n 0, 1) := by decide +kernel
theorem d2_9 : decode (mB m2) 9 = .ok (.getfield 26, 3) := by decide +kernel
theorem d2_12 : decode (mB m2) 12 = .ok (.iload_n 1, 1) := by decide +kernel
theorem d2_13 : decode (mB m2) 13 = .ok (.iconst 0, 1) := by decide +kernel
theorem d2_14 : decode (mB m2) 14 = .ok (.bastore, 1) := by decide +kernel
theorem d2_15 : decode (mB m2) 15 = .ok (.aload_n 0, 1) := by decide +kernel
theorem d2_16 : decode (mB m2) 16 = .ok (.getfield 20, 3) := by decide +kernel
theorem d2_19 : decode (mB m2) 19 = .ok (.iload_n 1, 1) := by decide +kernel
theorem d2_20 : decode (mB m2) 20 = .ok (.iconst 0, 1) := by decide +kernel
theorem d2_21 : decode (mB m2) 21 = .ok (.iastore, 1) := by decide +kernel
theorem d2_22 : decode (mB m2) 22 = .ok (.aload_n 0, 1) := by decide +kernel
theorem d2_23 : decode (mB m2) 23 = .ok (.getfield 23, 3) := by decide +kernel
theorem d2_26 : decode (mB m2) 26 = .ok (.iload_n 1, 1) := by decide +kernel
theorem d2_27 : decode (mB m2) 27 = .ok (.iconst 0, 1) := by decide +kernel
theorem d2_28 : decode (mB m2) 28 = .ok (.iastore, 1) := by decide +kernel
theorem d2_29 : decode (mB m2) 29 = .ok (.iinc 1 1, 3) := by decide +kernel
theorem d2_32 : decode (mB m2) 32 = .ok (.goto (-30), 3) := by decide +kernel
theorem d2_35 : decode (mB m2) 35 = .ok (.return_, 1) := by decide +kernel
theorem d3_0 : decode (mB m3) 0 = .ok (.iconst 0, 1) := by decide +kernel
theorem d3_1 : decode (mB m3) 1 = .ok (.istore_n 1, 1) := by decide +kernel
theorem d3_2 : decode (mB m3) 2 = .ok (.iload_n 1, 1) := by decide +kernel
theorem d3_3 : decode (mB m3) 3 = .ok (.bipush 32, 2) := by decide +kernel
theorem d3_5 : decode (mB m3) 5 = .ok (.if_icmp .ge 16, 3) := by decide +kernel
theorem d3_8 : decode (mB m3) 8 = .ok (.aload_n 0, 1) := by decide +kernel
theorem d3_9 : decode (mB m3) 9 = .ok (.getfield 29, 3) := by decide +kernel
theorem d3_12 : decode (mB m3) 12 = .ok (.iload_n 1, 1) := by decide +kernel
theorem d3_13 : decode (mB m3) 13 = .ok (.iconst (-1), 1) := by decide +kernel
theorem d3_14 : decode (mB m3) 14 = .ok (.iastore, 1) := by decide +kernel
theorem d3_15 : decode (mB m3) 15 = .ok (.iinc 1 1, 3) := by decide +kernel
theorem d3_18 : decode (mB m3) 18 = .ok (.goto (-16), 3) := by decide +kernel
theorem d3_21 : decode (mB m3) 21 = .ok (.aload_n 0, 1) := by decide +kernel
theorem d3_22 : decode (mB m3) 22 = .ok (.iconst 0, 1) := by decide +kernel
theorem d3_23 : decode (mB m3) 23 = .ok (.putfield 136, 3) := by decide +kernel
theorem d3_26 : decode (mB m3) 26 = .ok (.aload_n 0, 1) := by decide +kernel
theorem d3_27 : decode (mB m3) 27 = .ok (.iconst 0, 1) := by decide +kernel
theorem d3_28 : decode (mB m3) 28 = .ok (.putfield 130, 3) := by decide +kernel
theorem d3_31 : decode (mB m3) 31 = .ok (.aload_n 0, 1) := by decide +kernel
theorem d3_32 : decode (mB m3) 32 = .ok (.iconst 0, 1) := by decide +kernel
theorem d3_33 : decode (mB m3) 33 = .ok (.putfield 133, 3) := by decide +kernel
theorem d3_36 : decode (mB m3) 36 = .ok (.return_, 1) := by decide +kernel
theorem d4_0 : decode (mB m4) 0 = .ok (.iconst 0, 1) := by decide +kernel
theorem d4_1 : decode (mB m4) 1 = .ok (.istore_n 1, 1) := by decide +kernel
theorem d4_2 : decode (mB m4) 2 = .ok (.iload_n 1, 1) := by decide +kernel
theorem d4_3 : decode (mB m4) 3 = .ok (.bipush 32, 2) := by decide +kernel
theorem d4_5 : decode (mB m4) 5 = .ok (.if_icmp .ge 23, 3) := by decide +kernel
theorem d4_8 : decode (mB m4) 8 = .ok (.aload_n 0, 1) := by decide +kernel
theorem d4_9 : decode (mB m4) 9 = .ok (.getfield 32, 3) := by decide +kernel
theorem d4_12 : decode (mB m4) 12 = .ok (.iload_n 1, 1) := by decide +kernel
theorem d4_13 : decode (mB m4) 13 = .ok (.iconst 0, 1) := by decide +kernel
theorem d4_14 : decode (mB m4) 14 = .ok (.iastore, 1) := by decide +kernel
theorem d4_15 : decode (mB m4) 15 = .ok (.aload_n 0, 1) := by decide +kernel
theorem d4_16 : decode (mB m4) 16 = .ok (.getfield 35, 3) := by decide +kernel
theorem d4_19 : decode (mB m4) 19 = .ok (.iload_n 1, 1) := by decide +kernel
theorem d4_20 : decode (mB m4) 20 = .ok (.iconst 0, 1) := by decide +kernel
theorem d4_21 : decode (mB m4) 21 = .ok (.iastore, 1) := by decide +kernel
theorem d4_22 : decode (mB m4) 22 = .ok (.iinc 1 1, 3) := by decide +kernel
theorem d4_25 : decode (mB m4) 25 = .ok (.goto (-23), 3) := by decide +kernel
theorem d4_28 : decode (mB m4) 28 = .ok (.aload_n 0, 1) := by decide +kernel
theorem d4_29 : decode (mB m4) 29 = .ok (.getfield 32, 3) := by decide +kernel
theorem d4_32 : decode (mB m4) 32 = .ok (.iconst 0, 1) := by decide +kernel
theorem d4_33 : decode (mB m4) 33 = .ok (.iconst 0, 1) := by decide +kernel
theorem d4_34 : decode (mB m4) 34 = .ok (.iastore, 1) := by decide +kernel
theorem d4_35 : decode (mB m4) 35 = .ok (.aload_n 0, 1) := by decide +kernel
theorem d4_36 : decode (mB m4) 36 = .ok (.getfield 35, 3) := by decide +kernel
theorem d4_39 : decode (mB m4) 39 = .ok (.iconst 0, 1) := by decide +kernel
theorem d4_40 : decode (mB m4) 40 = .ok (.aload_n 0, 1) := by decide +kernel
theorem d4_41 : decode (mB m4) 41 = .ok (.getfield 42, 3) := by decide +kernel
theorem d4_44 : decode (mB m4) 44 = .ok (.iastore, 1) := by decide +kernel
theorem d4_45 : decode (mB m4) 45 = .ok (.aload_n 0, 1) := by decide +kernel
theorem d4_46 : decode (mB m4) 46 = .ok (.iconst 1, 1) := by decide +kernel
theorem d4_47 : decode (mB m4) 47 = .ok (.putfield 145, 3) := by decide +kernel
theorem d4_50 : decode (mB m4) 50 = .ok (.return_, 1) := by decide +kernel
theorem d5_0 : decode (mB m5) 0 = .ok (.aload_n 0, 1) := by decide +kernel
theorem d5_1 : decode (mB m5) 1 = .ok (.invokespecial 1, 3) := by decide +kernel
theorem d5_4 : decode (mB m5) 4 = .ok (.aload_n 0, 1) := by decide +kernel
theorem d5_5 : decode (mB m5) 5 = .ok (.sipush 256, 3) := by decide +kernel
theorem d5_8 : decode (mB m5) 8 = .ok (.newarray .byte, 2) := by decide +kernel
theorem d5_10 : decode (mB m5) 10 = .ok (.putfield 7, 3) := by decide +kernel
theorem d5_13 : decode (mB m5) 13 = .ok (.aload_n 0, 1) := by decide +kernel
theorem d5_14 : decode (mB m5) 14 = .ok (.bipush 32, 2) := by decide +kernel
theorem d5_16 : decode (mB m5) 16 = .ok (.newarray .int, 2) := by decide +kernel
theorem d5_18 : decode (mB m5) 18 = .ok (.putfield 13, 3) := by decide +kernel
theorem d5_21 : decode (mB m5) 21 = .ok (.aload_n 0, 1) := by decide +kernel
theorem d5_22 : decode (mB m5) 22 = .ok (.bipush 32, 2) := by decide +kernel
theorem d5_24 : decode (mB m5) 24 = .ok (.newarray .int, 2) := by decide +kernel
theorem d5_26 : decode (mB m5) 26 = .ok (.putfield 17, 3) := by decide +kernel
theorem d5_29 : decode (mB m5) 29 = .ok (.aload_n 0, 1) := by decide +kernel
theorem d5_30 : decode (mB m5) 30 = .ok (.bipush 32, 2) := by decide +kernel
theorem d5_32 : decode (mB m5) 32 = .ok (.newarray .int, 2) := by decide +kernel
theorem d5_34 : decode (mB m5) 34 = .ok (.putfield 20, 3) := by decide +kernel
theorem d5_37 : decode (mB m5) 37 = .ok (.aload_n 0, 1) := by decide +kernel
theorem d5_38 : decode (mB m5) 38 = .ok (.bipush 32, 2) := by decide +kernel
theorem d5_40 : decode (mB m5) 40 = .ok (.newarray .int, 2) := by decide +kernel
theorem d5_42 : decode (mB m5) 42 = .ok (.putfield 23, 3) := by decide +kernel
theorem d5_45 : decode (mB m5) 45 = .ok (.aload_n 0, 1) := by decide +kernel
theorem d5_46 : decode (mB m5) 46 = .ok (.bipush 32, 2) := by decide +kernel
theorem d5_48 : decode (mB m5) 48 = .ok (.newarray .byte, 2) := by decide +kernel
theorem d5_50 : decode (mB m5) 50 = .ok (.putfield 26, 3) := by decide +kernel
theorem d5_53 : decode (mB m5) 53 = .ok (.aload_n 0, 1) := by decide +kernel
theorem d5_54 : decode (mB m5) 54 = .ok (.bipush 32, 2) := by decide +kernel
theorem d5_56 : decode (mB m5) 56 = .ok (.newarray .int, 2) := by decide +kernel
theorem d5_58 : decode (mB m5) 58 = .ok (.putfield 29, 3) := by decide +kernel
theorem d5_61 : decode (mB m5) 61 = .ok (.aload_n 0, 1) := by decide +kernel
theorem d5_62 : decode (mB m5) 62 = .ok (.bipush 32, 2) := by decide +kernel
theorem d5_64 : decode (mB m5) 64 = .ok (.newarray .int, 2) := by decide +kernel
theorem d5_66 : decode (mB m5) 66 = .ok (.putfield 32, 3) := by decide +kernel
theorem d5_69 : decode (mB m5) 69 = .ok (.aload_n 0, 1) := by decide +kernel
theorem d5_70 : decode (mB m5) 70 = .ok (.bipush 32, 2) := by decide +kernel
theorem d5_72 : decode (mB m5) 72 = .ok (.newarray .int, 2) := by decide +kernel
theorem d5_74 : decode (mB m5) 74 = .ok (.putfield 35, 3) := by decide +kernel
theorem d5_77 : decode (mB m5) 77 = .ok (.aload_n 0, 1) := by decide +kernel
theorem d5_78 : decode (mB m5) 78 = .ok (.aload_n 0, 1) := by decide +kernel
theorem d5_79 : decode (mB m5) 79 = .ok (.iload_n 1, 1) := by decide +kernel
theorem d5_80 : decode (mB m5) 80 = .ok (.bipush 8, 2) := by decide +kernel
theorem d5_82 : decode (mB m5) 82 = .ok (.bipush 32, 2) := by decide +kernel
theorem d5_84 : decode (mB m5) 84 = .ok (.invokevirtual 38, 3) := by decide +kernel
theorem d5_87 : decode (mB m5) 87 = .ok (.putfield 42, 3) := by decide +kernel
theorem d5_90 : decode (mB m5) 90 = .ok (.aload_n 0, 1) := by decide +kernel
theorem d5_91 : decode (mB m5) 91 = .ok (.aload_n 0, 1) := by decide +kernel
theorem d5_92 : decode (mB m5) 92 = .ok (.iload_n 2, 1) := by decide +kernel
theorem d5_93 : decode (mB m5) 93 = .ok (.iconst 1, 1) := by decide +kernel
theorem d5_94 : decode (mB m5) 94 = .ok (.iconst 3, 1) := by decide +kernel
theorem d5_95 : decode (mB m5) 95 = .ok (.invokevirtual 38, 3) := by decide +kernel
theorem d5_98 : decode (mB m5) 98 = .ok (.putfield 46, 3) := by decide +kernel
theorem d5_101 : decode (mB m5) 101 = .ok (.aload_n 0, 1) := by decide +kernel
theorem d5_102 : decode (mB m5) 102 = .ok (.aload_n 0, 1) := by decide +kernel
theorem d5_103 : decode (mB m5) 103 = .ok (.iload_n 3, 1) := by decide +kernel
theorem d5_104 : decode (mB m5) 104 = .ok (.iconst 0, 1) := by decide +kernel
theorem d5_105 : decode (mB m5) 105 = .ok (.sipush 256, 3) := by decide +kernel
theorem d5_108 : decode (mB m5) 108 = .ok (.invokevirtual 38, 3) := by decide +kernel
theorem d5_111 : decode (mB m5) 111 = .ok (.putfield 49, 3) := by decide +kernel
theorem d5_114 : decode (mB m5) 114 = .ok (.aload_n 0, 1) := by decide +kernel
theorem d5_115 : decode (mB m5) 115 = .ok (.bipush 8, 2) := by decide +kernel
theorem d5_117 : decode (mB m5) 117 = .ok (.aload_n 0, 1) := by decide +kernel
theorem d5_118 : decode (mB m5) 118 = .ok (.getfield 42, 3) := by decide +kernel
theorem d5_121 : decode (mB m5) 121 = .ok (.imul, 1) := by decide +kernel
theorem d5_122 : decode (mB m5) 122 = .ok (.putfield 52, 3) := by decide +kernel
theorem d5_125 : decode (mB m5) 125 = .ok (.aload_n 0, 1) := by decide +kernel
theorem d5_126 : decode (mB m5) 126 = .ok (.invokevirtual 55, 3) := by decide +kernel
theorem d5_129 : decode (mB m5) 129 = .ok (.aload_n 0, 1) := by decide +kernel
theorem d5_130 : decode (mB m5) 130 = .ok (.invokevirtual 58, 3) := by decide +kernel
theorem d5_133 : decode (mB m5) 133 = .ok (.aload_n 0, 1) := by decide +kernel
theorem d5_134 : decode (mB m5) 134 = .ok (.invokevirtual 61, 3) := by decide +kernel
theorem d5_137 : decode (mB m5) 137 = .ok (.aload_n 0, 1) := by decide +kernel
theorem d5_138 : decode (mB m5) 138 = .ok (.invokevirtual 64, 3) := by decide +kernel
theorem d5_141 : decode (mB m5) 141 = .ok (.aload_n 0, 1) := by decide +kernel
theorem d5_142 : decode (mB m5) 142 = .ok (.iconst 0, 1) := by decide +kernel
theorem d5_143 : decode (mB m5) 143 = .ok (.putfield 67, 3) := by decide +kernel
theorem d5_146 : decode (mB m5) 146 = .ok (.aload_n 0, 1) := by decide +kernel
theorem d5_147 : decode (mB m5) 147 = .ok (.lconst 0, 1) := by decide +kernel
theorem d5_148 : decode (mB m5) 148 = .ok (.putfield 70, 3) := by decide +kernel
theorem d5_151 : decode (mB m5) 151 = .ok (.aload_n 0, 1) := by decide +kernel
theorem d5_152 : decode (mB m5) 152 = .ok (.iconst 0, 1) := by decide +kernel
theorem d5_153 : decode (mB m5) 153 = .ok (.putfield 74, 3) := by decide +kernel
theorem d5_156 : decode (mB m5) 156 = .ok (.aload_n 0, 1) := by decide +kernel
theorem d5_157 : decode (mB m5) 157 = .ok (.iconst 0, 1) := by decide +kernel
theorem d5_158 : decode (mB m5) 158 = .ok (.putfield 77, 3) := by decide +kernel
theorem d5_161 : decode (mB m5) 161 = .ok (.return_, 1) := by decide +kernel
theorem d6_0 : decode (mB m6) 0 = .ok (.iload_n 1, 1) := by decide +kernel
theorem d6_1 : decode (mB m6) 1 = .ok (.bipush 7, 2) := by decide +kernel
theorem d6_3 : decode (mB m6) 3 = .ok (.iadd, 1) := by decide +kernel
theorem d6_4 : decode (mB m6) 4 = .ok (.bipush 8, 2) := by decide +kernel
theorem d6_6 : decode (mB m6) 6 = .ok (.idiv, 1) := by decide +kernel
theorem d6_7 : decode (mB m6) 7 = .ok (.ireturn, 1) := by decide +kernel
theorem d7_0 : decode (mB m7) 0 = .ok (.iconst 2, 1) := by decide +kernel
theorem d7_1 : decode (mB m7) 1 = .ok (.aload_n 0, 1) := by decide +kernel
theorem d7_2 : decode (mB m7) 2 = .ok (.getfield 46, 3) := by decide +kernel
theorem d7_5 : decode (mB m7) 5 = .ok (.imul, 1) := by decide +kernel
theorem d7_6 : decode (mB m7) 6 = .ok (.aload_n 0, 1) := by decide +kernel
theorem d7_7 : decode (mB m7) 7 = .ok (.iload_n 1, 1) := by decide +kernel
theorem d7_8 : decode (mB m7) 8 = .ok (.invokevirtual 148, 3) := by decide +kernel
theorem d7_11 : decode (mB m7) 11 = .ok (.iadd, 1) := by decide +kernel
theorem d7_12 : decode (mB m7) 12 = .ok (.ireturn, 1) := by decide +kernel
theorem d8_0 : decode (mB m8) 0 = .ok (.iconst 0, 1) := by decide +kernel
theorem d8_1 : decode (mB m8) 1 = .ok (.istore_n 2, 1) := by decide +kernel
theorem d8_2 : decode (mB m8) 2 = .ok (.iload_n 2, 1) := by decide +kernel
theorem d8_3 : decode (mB m8) 3 = .ok (.aload_n 0, 1) := by decide +kernel
theorem d8_4 : decode (mB m8) 4 = .ok (.getfield 145, 3) := by decide +kernel
theorem d8_7 : decode (mB m8) 7 = .ok (.if_icmp .ge 27, 3) := by decide +kernel
theorem d8_10 : decode (mB m8) 10 = .ok (.iload_n 2, 1) := by decide +kernel
theorem d8_11 : decode (mB m8) 11 = .ok (.bipush 32, 2) := by decide +kernel
theorem d8_13 : decode (mB m8) 13 = .ok (.if_icmp .ge 21, 3) := by decide +kernel
theorem d8_16 : decode (mB m8) 16 = .ok (.aload_n 0, 1) := by decide +kernel
theorem d8_17 : decode (mB m8) 17 = .ok (.getfield 35, 3) := by decide +kernel
theorem d8_20 : decode (mB m8) 20 = .ok (.iload_n 2, 1) := by decide +kernel
theorem d8_21 : decode (mB m8) 21 = .ok (.iaload, 1) := by decide +kernel
theorem d8_22 : decode (mB m8) 22 = .ok (.iload_n 1, 1) := by decide +kernel
theorem d8_23 : decode (mB m8) 23 = .ok (.if_icmp .lt 5, 3) := by decide +kernel
theorem d8_26 : decode (mB m8) 26 = .ok (.iload_n 2, 1) := by decide +kernel
theorem d8_27 : decode (mB m8) 27 = .ok (.ireturn, 1) := by decide +kernel
theorem d8_28 : decode (mB m8) 28 = .ok (.iinc 2 1, 3) := by decide +kernel
theorem d8_31 : decode (mB m8) 31 = .ok (.goto (-29), 3) := by decide +kernel
theorem d8_34 : decode (mB m8) 34 = .ok (.iconst (-1), 1) := by decide +kernel
theorem d8_35 : decode (mB m8) 35 = .ok (.ireturn, 1) := by decide +kernel
theorem d9_0 : decode (mB m9) 0 = .ok (.aload_n 0, 1) := by decide +kernel
theorem d9_1 : decode (mB m9) 1 = .ok (.iload_n 1, 1) := by decide +kernel
theorem d9_2 : decode (mB m9) 2 = .ok (.invokevirtual 188, 3) := by decide +kernel
theorem d9_5 : decode (mB m9) 5 = .ok (.istore_n 2, 1) := by decide +kernel
theorem d9_6 : decode (mB m9) 6 = .ok (.iconst 0, 1) := by decide +kernel
theorem d9_7 : decode (mB m9) 7 = .ok (.istore_n 3, 1) := by decide +kernel
theorem d9_8 : decode (mB m9) 8 = .ok (.iload_n 3, 1) := by decide +kernel
theorem d9_9 : decode (mB m9) 9 = .ok (.bipush 64, 2) := by decide +kernel
theorem d9_11 : decode (mB m9) 11 = .ok (.if_icmp .ge 30, 3) := by decide +kernel
theorem d9_14 : decode (mB m9) 14 = .ok (.iload_n 2, 1) := by decide +kernel
theorem d9_15 : decode (mB m9) 15 = .ok (.ifCond .ge 26, 3) := by decide +kernel
theorem d9_18 : decode (mB m9) 18 = .ok (.aload_n 0, 1) := by decide +kernel
theorem d9_19 : decode (mB m9) 19 = .ok (.getfield 130, 3) := by decide +kernel
theorem d9_22 : decode (mB m9) 22 = .ok (.ifCond .le 19, 3) := by decide +kernel
theorem d9_25 : decode (mB m9) 25 = .ok (.aload_n 0, 1) := by decide +kernel
theorem d9_41 : decode (mB m9) 41 = .ok (.iload_n 2, 1) := by decide +kernel
theorem d9_42 : decode (mB m9) 42 = .ok (.ireturn, 1) := by decide +kernel
theorem d10_0 : decode (mB m10) 0 = .ok (.iconst 0, 1) := by decide +kernel
theorem d10_1 : decode (mB m10) 1 = .ok (.istore_n 1, 1) := by decide +kernel
theorem d10_2 : decode (mB m10) 2 = .ok (.iload_n 1, 1) := by decide +kernel
theorem d10_3 : decode (mB m10) 3 = .ok (.bipush 32, 2) := by decide +kernel
theorem d10_5 : decode (mB m10) 5 = .ok (.if_icmp .ge 20, 3) := by decide +kernel
theorem d10_8 : decode (mB m10) 8 = .ok (.aload_n 0, 1) := by decide +kernel
theorem d10_9 : decode (mB m10) 9 = .ok (.getfield 26, 3) := by decide +kernel
theorem d10_12 : decode (mB m10) 12 = .ok (.iload_n 1, 1) := by decide +kernel
theorem d10_13 : decode (mB m10) 13 = .ok (.baload, 1) := by decide +kernel
theorem d10_14 : decode (mB m10) 14 = .ok (.ifCond .ne 5, 3) := by decide +kernel
theorem d10_17 : decode (mB m10) 17 = .ok (.iload_n 1, 1) := by decide +kernel
theorem d10_18 : decode (mB m10) 18 = .ok (.ireturn, 1) := by decide +kernel
theorem d10_19 : decode (mB m10) 19 = .ok (.iinc 1 1, 3) := by decide +kernel
theorem d10_22 : decode (mB m10) 22 = .ok (.goto (-20), 3) := by decide +kernel
theorem d10_25 : decode (mB m10) 25 = .ok (.iconst (-1), 1) := by decide +kernel
theorem d10_26 : decode (mB m10) 26 = .ok (.ireturn, 1) := by decide +kernel
theorem d11_0 : decode (mB m11) 0 = .ok (.iload_n 1, 1) := by decide +kernel
theorem d11_1 : decode (mB m11) 1 = .ok (.ifCond .lt 11, 3) := by decide +kernel
theorem d11_4 : decode (mB m11) 4 = .ok (.iload_n 1, 1) := by decide +kernel
theorem d11_5 : decode (mB m11) 5 = .ok (.aload_n 0, 1) := by decide +kernel
theorem d11_6 : decode (mB m11) 6 = .ok (.getfield 145, 3) := by decide +kernel
theorem d11_9 : decode (mB m11) 9 = .ok (.if_icmp .lt 4, 3) := by decide +kernel
theorem d11_12 : decode (mB m11) 12 = .ok (.return_, 1) := by decide +kernel
theorem d11_13 : decode (mB m11) 13 = .ok (.aload_n 0, 1) := by decide +kernel
theorem d11_14 : decode (mB m11) 14 = .ok (.getfield 32, 3) := by decide +kernel
theorem d11_17 : decode (mB m11) 17 = .ok (.iload_n 1, 1) := by decide +kernel
theorem d11_18 : decode (mB m11) 18 = .ok (.dup2, 1) := by decide +kernel
theorem d11_19 : decode (mB m11) 19 = .ok (.iaload, 1) := by decide +kernel
theorem d11_20 : decode (mB m11) 20 = .ok (.iload_n 2, 1) := by decide +kernel
theorem d11_21 : decode (mB m11) 21 = .ok (.iadd, 1) := by decide +kernel
theorem d11_22 : decode (mB m11) 22 = .ok (.iastore, 1) := by decide +kernel
theorem d11_23 : decode (mB m11) 23 = .ok (.aload_n 0, 1) := by decide +kernel
theorem d11_24 : decode (mB m11) 24 = .ok (.getfield 35, 3) := by decide +kernel
theorem d11_27 : decode (mB m11) 27 = .ok (.iload_n 1, 1) := by decide +kernel
theorem d11_28 : decode (mB m11) 28 = .ok (.dup2, 1) := by decide +kernel
theorem d11_29 : decode (mB m11) 29 = .ok (.iaload, 1) := by decide +kernel
theorem d11_30 : decode (mB m11) 30 = .ok (.iload_n 2, 1) := by decide +kernel
theorem d11_31 : decode (mB m11) 31 = .ok (.isub, 1) := by decide +kernel
theorem d11_32 : decode (mB m11) 32 = .ok (.iastore, 1) := by decide +kernel
theorem d11_33 : decode (mB m11) 33 = .ok (.aload_n 0, 1) := by decide +kernel
theorem d11_34 : decode (mB m11) 34 = .ok (.getfield 35, 3) := by decide +kernel
theorem d11_37 : decode (mB m11) 37 = .ok (.iload_n 1, 1) := by decide +kernel
theorem d11_38 : decode (mB m11) 38 = .ok (.iaload, 1) := by decide +kernel
theorem d11_39 : decode (mB m11) 39 = .ok (.ifCond .gt 8, 3) := by decide +kernel
theorem d11_42 : decode (mB m11) 42 = .ok (.aload_n 0, 1) := by decide +kernel
theorem d11_43 : decode (mB m11) 43 = .ok (.iload_n 1, 1) := by decide +kernel
theorem d11_47 : decode (mB m11) 47 = .ok (.return_, 1) := by decide +kernel
theorem d12_0 : decode (mB m12) 0 = .ok (.iconst 0, 1) := by decide +kernel
theorem d12_1 : decode (mB m12) 1 = .ok (.istore 4, 2) := by decide +kernel
theorem d12_3 : decode (mB m12) 3 = .ok (.iload 4, 2) := by decide +kernel
theorem d12_5 : decode (mB m12) 5 = .ok (.iload_n 2, 1) := by decide +kernel
theorem d12_6 : decode (mB m12) 6 = .ok (.if_icmp .ge 44, 3) := by decide +kernel
theorem d12_9 : decode (mB m12) 9 = .ok (.iload 4, 2) := by decide +kernel
theorem d12_11 : decode (mB m12) 11 = .ok (.bipush 32, 2) := by decide +kernel
theorem d12_13 : decode (mB m12) 13 = .ok (.if_icmp .ge 37, 3) := by decide +kernel
theorem d12_16 : decode (mB m12) 16 = .ok (.iload_n 1, 1) := by decide +kernel
theorem d12_17 : decode (mB m12) 17 = .ok (.iload 4, 2) := by decide +kernel
theorem d12_19 : decode (mB m12) 19 = .ok (.iadd, 1) := by decide +kernel
theorem d12_20 : decode (mB m12) 20 = .ok (.istore 5, 2) := by decide +kernel
theorem d12_22 : decode (mB m12) 22 = .ok (.iload 5, 2) := by decide +kernel
theorem d12_24 : decode (mB m12) 24 = .ok (.ifCond .lt 20, 3) := by decide +kernel
theorem d12_27 : decode (mB m12) 27 = .ok (.iload 5, 2) := by decide +kernel
theorem d12_29 : decode (mB m12) 29 = .ok (.aload_n 0, 1) := by decide +kernel
theorem d12_30 : decode (mB m12) 30 = .ok (.getfield 42, 3) := by decide +kernel
theorem d12_33 : decode (mB m12) 33 = .ok (.if_icmp .ge 11, 3) := by decide +kernel
theorem d12_36 : decode (mB m12) 36 = .ok (.aload_n 0, 1) := by decide +kernel
theorem d12_37 : decode (mB m12) 37 = .ok (.getfield 17, 3) := by decide +kernel
theorem d12_40 : decode (mB m12) 40 = .ok (.iload 5, 2) := by decide +kernel
theorem d12_42 : decode (mB m12) 42 = .ok (.iload_n 3, 1) := by decide +kernel
theorem d12_43 : decode (mB m12) 43 = .ok (.iastore, 1) := by decide +kernel
theorem d12_44 : decode (mB m12) 44 = .ok (.iinc 4 1, 3) := by decide +kernel
theorem d12_47 : decode (mB m12) 47 = .ok (.goto (-44), 3) := by decide +kernel
theorem d12_50 : decode (mB m12) 50 = .ok (.return_, 1) := by decide +kernel
theorem d13_0 : decode (mB m13) 0 = .ok (.iload_n 1, 1) := by decide +kernel
theorem d13_1 : decode (mB m13) 1 = .ok (.ifCond .lt 13, 3) := by decide +kernel
theorem d13_4 : decode (mB m13) 4 = .ok (.iload_n 1, 1) := by decide +kernel
theorem d13_5 : decode (mB m13) 5 = .ok (.bipush 32, 2) := by decide +kernel
theorem d13_7 : decode (mB m13) 7 = .ok (.if_icmp .ge 7, 3) := by decide +kernel
theorem d13_10 : decode (mB m13) 10 = .ok (.iconst 1, 1) := by decide +kernel
theorem d13_11 : decode (mB m13) 11 = .ok (.goto 4, 3) := by decide +kernel
theorem d13_14 : decode (mB m13) 14 = .ok (.iconst 0, 1) := by decide +kernel
theorem d13_15 : decode (mB m13) 15 = .ok (.ireturn, 1) := by decide +kernel
theorem d14_0 : decode (mB m14) 0 = .ok (.aload_n 0, 1) := by decide +kernel
theorem d14_1 : decode (mB m14) 1 = .ok (.iload_n 1, 1) := by decide +kernel
theorem d14_2 : decode (mB m14) 2 = .ok (.invokevirtual 139, 3) := by decide +kernel
theorem d14_5 : decode (mB m14) 5 = .ok (.ifCond .ne 5, 3) := by decide +kernel
theorem d14_8 : decode (mB m14) 8 = .ok (.iconst (-1), 1) := by decide +kernel
theorem d14_9 : decode (mB m14) 9 = .ok (.ireturn, 1) := by decide +kernel
theorem d14_10 : decode (mB m14) 10 = .ok (.aload_n 0, 1) := by decide +kernel
theorem d14_11 : decode (mB m14) 11 = .ok (.getfield 20, 3) := by decide +kernel
theorem d14_14 : decode (mB m14) 14 = .ok (.iload_n 1, 1) := by decide +kernel
theorem d14_15 : decode (mB m14) 15 = .ok (.iaload, 1) := by decide +kernel
theorem d14_16 : decode (mB m14) 16 = .ok (.aload_n 0, 1) := by decide +kernel
theorem d14_17 : decode (mB m14) 17 = .ok (.getfield 46, 3) := by decide +kernel
theorem d14_20 : decode (mB m14) 20 = .ok (.iadd, 1) := by decide +kernel
theorem d14_21 : decode (mB m14) 21 = .ok (.ireturn, 1) := by decide +kernel
theorem d15_0 : decode (mB m15) 0 = .ok (.aload_n 0, 1) := by decide +kernel
theorem d15_1 : decode (mB m15) 1 = .ok (.iload_n 1, 1) := by decide +kernel
theorem d15_2 : decode (mB m15) 2 = .ok (.invokevirtual 139, 3) := by decide +kernel
theorem d15_5 : decode (mB m15) 5 = .ok (.ifCond .ne 5, 3) := by decide +kernel
theorem d15_8 : decode (mB m15) 8 = .ok (.iconst (-1), 1) := by decide +kernel
theorem d15_9 : decode (mB m15) 9 = .ok (.ireturn, 1) := by decide +kernel
theorem d15_10 : decode (mB m15) 10 = .ok (.aload_n 0, 1) := by decide +kernel
theorem d15_11 : decode (mB m15) 11 = .ok (.getfield 23, 3) := by decide +kernel
theorem d15_14 : decode (mB m15) 14 = .ok (.iload_n 1, 1) := by decide +kernel
theorem d15_15 : decode (mB m15) 15 = .ok (.iaload, 1) := by decide +kernel
theorem d15_16 : decode (mB m15) 16 = .ok (.istore_n 2, 1) := by decide +kernel
theorem d15_17 : decode (mB m15) 17 = .ok (.aload_n 0, 1) := by decide +kernel
theorem d15_18 : decode (mB m15) 18 = .ok (.iload_n 1, 1) := by decide +kernel
theorem d15_19 : decode (mB m15) 19 = .ok (.invokevirtual 151, 3) := by decide +kernel
theorem d15_22 : decode (mB m15) 22 = .ok (.aload_n 0, 1) := by decide +kernel
theorem d15_23 : decode (mB m15) 23 = .ok (.iload_n 2, 1) := by decide +kernel
theorem d15_24 : decode (mB m15) 24 = .ok (.invokevirtual 148, 3) := by decide +kernel
theorem d15_27 : decode (mB m15) 27 = .ok (.iadd, 1) := by decide +kernel
theorem d15_28 : decode (mB m15) 28 = .ok (.ireturn, 1) := by decide +kernel
theorem d16_0 : decode (mB m16) 0 = .ok (.iconst 0, 1) := by decide +kernel
theorem d16_1 : decode (mB m16) 1 = .ok (.istore 4, 2) := by decide +kernel
theorem d16_3 : decode (mB m16) 3 = .ok (.iload 4, 2) := by decide +kernel
theorem d16_5 : decode (mB m16) 5 = .ok (.iload_n 2, 1) := by decide +kernel
theorem d16_6 : decode (mB m16) 6 = .ok (.if_icmp .ge 44, 3) := by decide +kernel
theorem d16_9 : decode (mB m16) 9 = .ok (.iload 4, 2) := by decide +kernel
theorem d16_11 : decode (mB m16) 11 = .ok (.bipush 32, 2) := by decide +kernel
theorem d16_13 : decode (mB m16) 13 = .ok (.if_icmp .ge 37, 3) := by decide +kernel
theorem d16_16 : decode (mB m16) 16 = .ok (.iload_n 1, 1) := by decide +kernel
theorem d16_17 : decode (mB m16) 17 = .ok (.iload 4, 2) := by decide +kernel
theorem d16_19 : decode (mB m16) 19 = .ok (.iadd, 1) := by decide +kernel
theorem d16_20 : decode (mB m16) 20 = .ok (.istore 5, 2) := by decide +kernel
theorem d16_22 : decode (mB m16) 22 = .ok (.iload 5, 2) := by decide +kernel
theorem d16_24 : decode (mB m16) 24 = .ok (.ifCond .lt 20, 3) := by decide +kernel
theorem d16_27 : decode (mB m16) 27 = .ok (.iload 5, 2) := by decide +kernel
theorem d16_29 : decode (mB m16) 29 = .ok (.aload_n 0, 1) := by decide +kernel
theorem d16_30 : decode (mB m16) 30 = .ok (.getfield 42, 3) := by decide +kernel
theorem d16_33 : decode (mB m16) 33 = .ok (.if_icmp .ge 11, 3) := by decide +kernel
theorem d16_36 : decode (mB m16) 36 = .ok (.aload_n 0, 1) := by decide +kernel
theorem d16_37 : decode (mB m16) 37 = .ok (.getfield 13, 3) := by decide +kernel
theorem d16_40 : decode (mB m16) 40 = .ok (.iload 5, 2) := by decide +kernel
theorem d16_42 : decode (mB m16) 42 = .ok (.iload_n 3, 1) := by decide +kernel
theorem d16_43 : decode (mB m16) 43 = .ok (.iastore, 1) := by decide +kernel
theorem d16_44 : decode (mB m16) 44 = .ok (.iinc 4 1, 3) := by decide +kernel
theorem d16_47 : decode (mB m16) 47 = .ok (.goto (-44), 3) := by decide +kernel
theorem d16_50 : decode (mB m16) 50 = .ok (.return_, 1) := by decide +kernel
theorem d17_0 : decode (mB m17) 0 = .ok (.aload_n 0, 1) := by decide +kernel
theorem d17_1 : decode (mB m17) 1 = .ok (.getfield 20, 3) := by decide +kernel
theorem d17_4 : decode (mB m17) 4 = .ok (.iload_n 1, 1) := by decide +kernel
theorem d17_5 : decode (mB m17) 5 = .ok (.iaload, 1) := by decide +kernel
theorem d17_6 : decode (mB m17) 6 = .ok (.istore_n 2, 1) := by decide +kernel
theorem d17_7 : decode (mB m17) 7 = .ok (.aload_n 0, 1) := by decide +kernel
theorem d17_8 : decode (mB m17) 8 = .ok (.iload_n 1, 1) := by decide +kernel
theorem d17_9 : decode (mB m17) 9 = .ok (.invokevirtual 151, 3) := by decide +kernel
theorem d17_12 : decode (mB m17) 12 = .ok (.istore_n 3, 1) := by decide +kernel
theorem d17_13 : decode (mB m17) 13 = .ok (.aload_n 0, 1) := by decide +kernel
theorem d17_14 : decode (mB m17) 14 = .ok (.iload_n 1, 1) := by decide +kernel
theorem d17_15 : decode (mB m17) 15 = .ok (.invokevirtual 154, 3) := by decide +kernel
theorem d17_18 : decode (mB m17) 18 = .ok (.istore 4, 2) := by decide +kernel
theorem d17_20 : decode (mB m17) 20 = .ok (.aload_n 0, 1) := by decide +kernel
theorem d17_21 : decode (mB m17) 21 = .ok (.getfield 23, 3) := by decide +kernel
theorem d17_24 : decode (mB m17) 24 = .ok (.iload_n 1, 1) := by decide +kernel
theorem d17_25 : decode (mB m17) 25 = .ok (.iaload, 1) := by decide +kernel
theorem d17_26 : decode (mB m17) 26 = .ok (.istore 5, 2) := by decide +kernel
theorem d17_28 : decode (mB m17) 28 = .ok (.aload_n 0, 1) := by decide +kernel
theorem d17_29 : decode (mB m17) 29 = .ok (.iload 5, 2) := by decide +kernel
theorem d17_31 : decode (mB m17) 31 = .ok (.invokevirtual 148, 3) := by decide +kernel
theorem d17_34 : decode (mB m17) 34 = .ok (.istore 6, 2) := by decide +kernel
theorem d17_36 : decode (mB m17) 36 = .ok (.aload_n 0, 1) := by decide +kernel
theorem d17_37 : decode (mB m17) 37 = .ok (.iload_n 2, 1) := by decide +kernel
theorem d17_38 : decode (mB m17) 38 = .ok (.aload_n 0, 1) := by decide +kernel
theorem d17_39 : decode (mB m17) 39 = .ok (.getfield 46, 3) := by decide +kernel
theorem d17_42 : decode (mB m17) 42 = .ok (.sipush 250, 3) := by decide +kernel
theorem d17_45 : decode (mB m17) 45 = .ok (.invokevirtual 157, 3) := by decide +kernel
theorem d17_48 : decode (mB m17) 48 = .ok (.aload_n 0, 1) := by decide +kernel
theorem d17_49 : decode (mB m17) 49 = .ok (.iload_n 3, 1) := by decide +kernel
theorem d17_50 : decode (mB m17) 50 = .ok (.iload 6, 2) := by decide +kernel
theorem d17_52 : decode (mB m17) 52 = .ok (.iconst 0, 1) := by decide +kernel
theorem d17_53 : decode (mB m17) 53 = .ok (.invokevirtual 157, 3) := by decide +kernel
theorem d17_56 : decode (mB m17) 56 = .ok (.aload_n 0, 1) := by decide +kernel
theorem d17_57 : decode (mB m17) 57 = .ok (.iload 4, 2) := by decide +kernel
theorem d17_59 : decode (mB m17) 59 = .ok (.aload_n 0, 1) := by decide +kernel
theorem d17_60 : decode (mB m17) 60 = .ok (.getfield 46, 3) := by decide +kernel
theorem d17_63 : decode (mB m17) 63 = .ok (.sipush 251, 3) := by decide +kernel
theorem d17_66 : decode (mB m17) 66 = .ok (.invokevirtual 157, 3) := by decide +kernel
theorem d17_69 : decode (mB m17) 69 = .ok (.iload 5, 2) := by decide +kernel
theorem d17_71 : decode (mB m17) 71 = .ok (.bipush 8, 2) := by decide +kernel
theorem d17_73 : decode (mB m17) 73 = .ok (.irem, 1) := by decide +kernel
theorem d17_74 : decode (mB m17) 74 = .ok (.istore 7, 2) := by decide +kernel
theorem d17_76 : decode (mB m17) 76 = .ok (.iload_n 3, 1) := by decide +kernel
theorem d17_77 : decode (mB m17) 77 = .ok (.iload 6, 2) := by decide +kernel
theorem d17_79 : decode (mB m17) 79 = .ok (.iadd, 1) := by decide +kernel
theorem d17_80 : decode (mB m17) 80 = .ok (.iconst 1, 1) := by decide +kernel
theorem d17_81 : decode (mB m17) 81 = .ok (.isub, 1) := by decide +kernel
theorem d17_82 : decode (mB m17) 82 = .ok (.istore 8, 2) := by decide +kernel
theorem d17_84 : decode (mB m17) 84 = .ok (.iload 7, 2) := by decide +kernel
theorem d17_86 : decode (mB m17) 86 = .ok (.ifCond .eq 26, 3) := by decide +kernel
theorem d17_89 : decode (mB m17) 89 = .ok (.iload 8, 2) := by decide +kernel
theorem d17_91 : decode (mB m17) 91 = .ok (.ifCond .lt 21, 3) := by decide +kernel
theorem d17_94 : decode (mB m17) 94 = .ok (.iload 8, 2) := by decide +kernel
theorem d17_96 : decode (mB m17) 96 = .ok (.aload_n 0, 1) := by decide +kernel
theorem d17_97 : decode (mB m17) 97 = .ok (.getfield 42, 3) := by decide +kernel
theorem d17_100 : decode (mB m17) 100 = .ok (.if_icmp .ge 12, 3) := by decide +kernel
theorem d17_103 : decode (mB m17) 103 = .ok (.aload_n 0, 1) := by decide +kernel
theorem d17_104 : decode (mB m17) 104 = .ok (.getfield 13, 3) := by decide +kernel
theorem d17_107 : decode (mB m17) 107 = .ok (.iload 8, 2) := by decide +kernel
theorem d17_109 : decode (mB m17) 109 = .ok (.iload 7, 2) := by decide +kernel
theorem d17_111 : decode (mB m17) 111 = .ok (.iastore, 1) := by decide +kernel
theorem d17_112 : decode (mB m17) 112 = .ok (.return_, 1) := by decide +kernel
theorem d18_0 : decode (mB m18) 0 = .ok (.aload_n 0, 1) := by decide +kernel
theorem d18_1 : decode (mB m18) 1 = .ok (.iload_n 1, 1) := by decide +kernel
theorem d18_2 : decode (mB m18) 2 = .ok (.invokevirtual 151, 3) := by decide +kernel
theorem d18_5 : decode (mB m18) 5 = .ok (.istore_n 2, 1) := by decide +kernel
theorem d18_6 : decode (mB m18) 6 = .ok (.bipush 8, 2) := by decide +kernel
theorem d18_8 : decode (mB m18) 8 = .ok (.iload_n 2, 1) := by decide +kernel
theorem d18_9 : decode (mB m18) 9 = .ok (.imul, 1) := by decide +kernel
theorem d18_10 : decode (mB m18) 10 = .ok (.ireturn, 1) := by decide +kernel
theorem d19_0 : decode (mB m19) 0 = .ok (.aload_n 0, 1) := by decide +kernel
theorem d19_1 : decode (mB m19) 1 = .ok (.iload_n 1, 1) := by decide +kernel
theorem d19_2 : decode (mB m19) 2 = .ok (.invokevirtual 142, 3) := by decide +kernel
theorem d19_5 : decode (mB m19) 5 = .ok (.istore_n 2, 1) := by decide +kernel
theorem d19_6 : decode (mB m19) 6 = .ok (.aload_n 0, 1) := by decide +kernel
theorem d19_7 : decode (mB m19) 7 = .ok (.getfield 23, 3) := by decide +kernel
theorem d19_10 : decode (mB m19) 10 = .ok (.iload_n 1, 1) := by decide +kernel
theorem d19_11 : decode (mB m19) 11 = .ok (.iaload, 1) := by decide +kernel
theorem d19_12 : decode (mB m19) 12 = .ok (.istore_n 3, 1) := by decide +kernel
theorem d19_13 : decode (mB m19) 13 = .ok (.iconst 0, 1) := by decide +kernel
theorem d19_14 : decode (mB m19) 14 = .ok (.istore 4, 2) := by decide +kernel
theorem d19_16 : decode (mB m19) 16 = .ok (.iload 4, 2) := by decide +kernel
theorem d19_18 : decode (mB m19) 18 = .ok (.iload_n 3, 1) := by decide +kernel
theorem d19_19 : decode (mB m19) 19 = .ok (.if_icmp .ge 44, 3) := by decide +kernel
theorem d19_22 : decode (mB m19) 22 = .ok (.iload 4, 2) := by decide +kernel
theorem d19_24 : decode (mB m19) 24 = .ok (.bipush 64, 2) := by decide +kernel
theorem d19_26 : decode (mB m19) 26 = .ok (.if_icmp .ge 37, 3) := by decide +kernel
theorem d19_29 : decode (mB m19) 29 = .ok (.iload_n 2, 1) := by decide +kernel
theorem d19_30 : decode (mB m19) 30 = .ok (.iload 4, 2) := by decide +kernel
theorem d19_32 : decode (mB m19) 32 = .ok (.iadd, 1) := by decide +kernel
theorem d19_33 : decode (mB m19) 33 = .ok (.istore 5, 2) := by decide +kernel
theorem d19_35 : decode (mB m19) 35 = .ok (.iload 5, 2) := by decide +kernel
theorem d19_37 : decode (mB m19) 37 = .ok (.ifCond .lt 20, 3) := by decide +kernel
theorem d19_40 : decode (mB m19) 40 = .ok (.iload 5, 2) := by decide +kernel
theorem d19_42 : decode (mB m19) 42 = .ok (.aload_n 0, 1) := by decide +kernel
theorem d19_43 : decode (mB m19) 43 = .ok (.getfield 52, 3) := by decide +kernel
theorem d19_46 : decode (mB m19) 46 = .ok (.if_icmp .ge 11, 3) := by decide +kernel
theorem d19_49 : decode (mB m19) 49 = .ok (.aload_n 0, 1) := by decide +kernel
theorem d19_50 : decode (mB m19) 50 = .ok (.getfield 7, 3) := by decide +kernel
theorem d19_53 : decode (mB m19) 53 = .ok (.iload 5, 2) := by decide +kernel
theorem d19_55 : decode (mB m19) 55 = .ok (.iconst 0, 1) := by decide +kernel
theorem d19_56 : decode (mB m19) 56 = .ok (.bastore, 1) := by decide +kernel
theorem d19_57 : decode (mB m19) 57 = .ok (.iinc 4 1, 3) := by decide +kernel
theorem d19_60 : decode (mB m19) 60 = .ok (.goto (-44), 3) := by decide +kernel
theorem d19_63 : decode (mB m19) 63 = .ok (.return_, 1) := by decide +kernel
theorem d20_0 : decode (mB m20) 0 = .ok (.aload_n 0, 1) := by decide +kernel
theorem d20_1 : decode (mB m20) 1 = .ok (.getfield 20, 3) := by decide +kernel
theorem d20_4 : decode (mB m20) 4 = .ok (.iload_n 1, 1) := by decide +kernel
theorem d20_5 : decode (mB m20) 5 = .ok (.iload_n 2, 1) := by decide +kernel
theorem d20_6 : decode (mB m20) 6 = .ok (.iastore, 1) := by decide +kernel
theorem d20_7 : decode (mB m20) 7 = .ok (.aload_n 0, 1) := by decide +kernel
theorem d20_8 : decode (mB m20) 8 = .ok (.getfield 23, 3) := by decide +kernel
theorem d20_11 : decode (mB m20) 11 = .ok (.iload_n 1, 1) := by decide +kernel
theorem d20_12 : decode (mB m20) 12 = .ok (.iload_n 3, 1) := by decide +kernel
theorem d20_13 : decode (mB m20) 13 = .ok (.iastore, 1) := by decide +kernel
theorem d20_14 : decode (mB m20) 14 = .ok (.aload_n 0, 1) := by decide +kernel
theorem d20_15 : decode (mB m20) 15 = .ok (.getfield 26, 3) := by decide +kernel
theorem d20_18 : decode (mB m20) 18 = .ok (.iload_n 1, 1) := by decide +kernel
theorem d20_19 : decode (mB m20) 19 = .ok (.iconst 1, 1) := by decide +kernel
theorem d20_20 : decode (mB m20) 20 = .ok (.bastore, 1) := by decide +kernel
theorem d20_21 : decode (mB m20) 21 = .ok (.aload_n 0, 1) := by decide +kernel
theorem d20_22 : decode (mB m20) 22 = .ok (.iload_n 3, 1) := by decide +kernel
theorem d20_23 : decode (mB m20) 23 = .ok (.invokevirtual 80, 3) := by decide +kernel
theorem d20_26 : decode (mB m20) 26 = .ok (.istore 4, 2) := by decide +kernel
theorem d20_28 : decode (mB m20) 28 = .ok (.aload_n 0, 1) := by decide +kernel
theorem d20_29 : decode (mB m20) 29 = .ok (.iload_n 2, 1) := by decide +kernel
theorem d20_30 : decode (mB m20) 30 = .ok (.iload 4, 2) := by decide +kernel
theorem d20_32 : decode (mB m20) 32 = .ok (.iload_n 1, 1) := by decide +kernel
theorem d20_33 : decode (mB m20) 33 = .ok (.invokevirtual 161, 3) := by decide +kernel
theorem d20_36 : decode (mB m20) 36 = .ok (.aload_n 0, 1) := by decide +kernel
theorem d20_37 : decode (mB m20) 37 = .ok (.iload_n 1, 1) := by decide +kernel
theorem d20_38 : decode (mB m20) 38 = .ok (.invokevirtual 164, 3) := by decide +kernel
theorem d20_41 : decode (mB m20) 41 = .ok (.aload_n 0, 1) := by decide +kernel
theorem d20_42 : decode (mB m20) 42 = .ok (.iload_n 1, 1) := by decide +kernel
theorem d20_43 : decode (mB m20) 43 = .ok (.invokevirtual 167, 3) := by decide +kernel
theorem d20_46 : decode (mB m20) 46 = .ok (.aload_n 0, 1) := by decide +kernel
theorem d20_47 : decode (mB m20) 47 = .ok (.dup, 1) := by decide +kernel
theorem d20_48 : decode (mB m20) 48 = .ok (.getfield 67, 3) := by decide +kernel
theorem d20_51 : decode (mB m20) 51 = .ok (.iconst 1, 1) := by decide +kernel
theorem d20_52 : decode (mB m20) 52 = .ok (.iadd, 1) := by decide +kernel
theorem d20_53 : decode (mB m20) 53 = .ok (.putfield 67, 3) := by decide +kernel
theorem d20_56 : decode (mB m20) 56 = .ok (.aload_n 0, 1) := by decide +kernel
theorem d20_57 : decode (mB m20) 57 = .ok (.iload_n 1, 1) := by decide +kernel
theorem d20_58 : decode (mB m20) 58 = .ok (.invokevirtual 142, 3) := by decide +kernel
theorem d20_61 : decode (mB m20) 61 = .ok (.ireturn, 1) := by decide +kernel
theorem d21_0 : decode (mB m21) 0 = .ok (.iload_n 1, 1) := by decide +kernel
theorem d21_1 : decode (mB m21) 1 = .ok (.iconst 1, 1) := by decide +kernel
theorem d21_2 : decode (mB m21) 2 = .ok (.if_icmp .lt 9, 3) := by decide +kernel
theorem d21_5 : decode (mB m21) 5 = .ok (.iload_n 1, 1) := by decide +kernel
theorem d21_6 : decode (mB m21) 6 = .ok (.bipush 64, 2) := by decide +kernel
theorem d21_8 : decode (mB m21) 8 = .ok (.if_icmp .le 5, 3) := by decide +kernel
theorem d21_11 : decode (mB m21) 11 = .ok (.iconst (-1), 1) := by decide +kernel
theorem d21_12 : decode (mB m21) 12 = .ok (.ireturn, 1) := by decide +kernel
theorem d21_13 : decode (mB m21) 13 = .ok (.aload_n 0, 1) := by decide +kernel
theorem d21_14 : decode (mB m21) 14 = .ok (.iload_n 1, 1) := by decide +kernel
theorem d21_15 : decode (mB m21) 15 = .ok (.invokevirtual 80, 3) := by decide +kernel
theorem d21_18 : decode (mB m21) 18 = .ok (.istore_n 2, 1) := by decide +kernel
theorem d21_19 : decode (mB m21) 19 = .ok (.aload_n 0, 1) := by decide +kernel
theorem d21_20 : decode (mB m21) 20 = .ok (.iload_n 2, 1) := by decide +kernel
theorem d21_21 : decode (mB m21) 21 = .ok (.invokevirtual 84, 3) := by decide +kernel
theorem d21_24 : decode (mB m21) 24 = .ok (.istore_n 3, 1) := by decide +kernel
theorem d21_25 : decode (mB m21) 25 = .ok (.iload_n 3, 1) := by decide +kernel
theorem d21_26 : decode (mB m21) 26 = .ok (.ifCond .ge 6, 3) := by decide +kernel
theorem d21_29 : decode (mB m21) 29 = .ok (.bipush (-2), 2) := by decide +kernel
theorem d21_31 : decode (mB m21) 31 = .ok (.ireturn, 1) := by decide +kernel
theorem d21_32 : decode (mB m21) 32 = .ok (.aload_n 0, 1) := by decide +kernel
theorem d21_33 : decode (mB m21) 33 = .ok (.invokevirtual 87, 3) := by decide +kernel
theorem d21_36 : decode (mB m21) 36 = .ok (.istore 4, 2) := by decide +kernel
theorem d21_38 : decode (mB m21) 38 = .ok (.iload 4, 2) := by decide +kernel
theorem d21_40 : decode (mB m21) 40 = .ok (.ifCond .ge 6, 3) := by decide +kernel
theorem d21_43 : decode (mB m21) 43 = .ok (.bipush (-2), 2) := by decide +kernel
theorem d21_45 : decode (mB m21) 45 = .ok (.ireturn, 1) := by decide +kernel
theorem d21_46 : decode (mB m21) 46 = .ok (.aload_n 0, 1) := by decide +kernel
theorem d21_47 : decode (mB m21) 47 = .ok (.getfield 32, 3) := by decide +kernel
theorem d21_50 : decode (mB m21) 50 = .ok (.iload_n 3, 1) := by decide +kernel
theorem d21_51 : decode (mB m21) 51 = .ok (.iaload, 1) := by decide +kernel
theorem d21_52 : decode (mB m21) 52 = .ok (.istore 5, 2) := by decide +kernel
theorem d21_54 : decode (mB m21) 54 = .ok (.aload_n 0, 1) := by decide +kernel
theorem d21_55 : decode (mB m21) 55 = .ok (.iload_n 3, 1) := by decide +kernel
theorem d21_56 : decode (mB m21) 56 = .ok (.iload_n 2, 1) := by decide +kernel
theorem d21_57 : decode (mB m21) 57 = .ok (.invokevirtual 91, 3) := by decide +kernel
theorem d21_60 : decode (mB m21) 60 = .ok (.aload_n 0, 1) := by decide +kernel
theorem d21_61 : decode (mB m21) 61 = .ok (.iload 4, 2) := by decide +kernel
theorem d21_63 : decode (mB m21) 63 = .ok (.iload 5, 2) := by decide +kernel
theorem d21_65 : decode (mB m21) 65 = .ok (.iload_n 1, 1) := by decide +kernel
theorem d21_66 : decode (mB m21) 66 = .ok (.invokevirtual 95, 3) := by decide +kernel
theorem d21_69 : decode (mB m21) 69 = .ok (.ireturn, 1) := by decide +kernel
theorem d22_0 : decode (mB m22) 0 = .ok (.aload_n 0, 1) := by decide +kernel
theorem d22_1 : decode (mB m22) 1 = .ok (.getfield 67, 3) := by decide +kernel
theorem d22_4 : decode (mB m22) 4 = .ok (.ireturn, 1) := by decide +kernel
theorem d23_0 : decode (mB m23) 0 = .ok (.iload_n 1, 1) := by decide +kernel
theorem d23_1 : decode (mB m23) 1 = .ok (.iconst 1, 1) := by decide +kernel
theorem d23_2 : decode (mB m23) 2 = .ok (.if_icmp .eq 19, 3) := by decide +kernel
theorem d23_5 : decode (mB m23) 5 = .ok (.iload_n 1, 1) := by decide +kernel
theorem d23_6 : decode (mB m23) 6 = .ok (.iconst 2, 1) := by decide +kernel
theorem d23_7 : decode (mB m23) 7 = .ok (.if_icmp .eq 14, 3) := by decide +kernel
theorem d23_10 : decode (mB m23) 10 = .ok (.iload_n 1, 1) := by decide +kernel
theorem d23_11 : decode (mB m23) 11 = .ok (.iconst 4, 1) := by decide +kernel
theorem d23_12 : decode (mB m23) 12 = .ok (.if_icmp .eq 9, 3) := by decide +kernel
theorem d23_15 : decode (mB m23) 15 = .ok (.iload_n 1, 1) := by decide +kernel
theorem d23_16 : decode (mB m23) 16 = .ok (.bipush 8, 2) := by decide +kernel
theorem d23_18 : decode (mB m23) 18 = .ok (.if_icmp .ne 7, 3) := by decide +kernel
theorem d23_21 : decode (mB m23) 21 = .ok (.iconst 1, 1) := by decide +kernel
theorem d23_22 : decode (mB m23) 22 = .ok (.goto 4, 3) := by decide +kernel
theorem d23_25 : decode (mB m23) 25 = .ok (.iconst 0, 1) := by decide +kernel
theorem d23_26 : decode (mB m23) 26 = .ok (.ireturn, 1) := by decide +kernel
theorem d24_0 : decode (mB m24) 0 = .ok (.iload_n 1, 1) := by decide +kernel
theorem d24_1 : decode (mB m24) 1 = .ok (.ifCond .ne 5, 3) := by decide +kernel
theorem d24_4 : decode (mB m24) 4 = .ok (.iconst 0, 1) := by decide +kernel
theorem d24_5 : decode (mB m24) 5 = .ok (.ireturn, 1) := by decide +kernel
theorem d24_6 : decode (mB m24) 6 = .ok (.iload_n 1, 1) := by decide +kernel
theorem d24_7 : decode (mB m24) 7 = .ok (.iconst 1, 1) := by decide +kernel
theorem d24_8 : decode (mB m24) 8 = .ok (.if_icmp .lt 20, 3) := by decide +kernel
theorem d24_11 : decode (mB m24) 11 = .ok (.iload_n 1, 1) := by decide +kernel
theorem d24_12 : decode (mB m24) 12 = .ok (.bipush 7, 2) := by decide +kernel
theorem d24_14 : decode (mB m24) 14 = .ok (.if_icmp .gt 14, 3) := by decide +kernel
theorem d24_17 : decode (mB m24) 17 = .ok (.iload_n 2, 1) := by decide +kernel
theorem d24_18 : decode (mB m24) 18 = .ok (.iload_n 1, 1) := by decide +kernel
theorem d24_19 : decode (mB m24) 19 = .ok (.if_icmp .ge 7, 3) := by decide +kernel
theorem d24_22 : decode (mB m24) 22 = .ok (.iconst 0, 1) := by decide +kernel
theorem d24_23 : decode (mB m24) 23 = .ok (.goto 4, 3) := by decide +kernel
theorem d24_26 : decode (mB m24) 26 = .ok (.iconst 2, 1) := by decide +kernel
theorem d24_27 : decode (mB m24) 27 = .ok (.ireturn, 1) := by decide +kernel
theorem d24_28 : decode (mB m24) 28 = .ok (.iload_n 1, 1) := by decide +kernel
theorem d24_29 : decode (mB m24) 29 = .ok (.sipush 250, 3) := by decide +kernel
theorem d24_32 : decode (mB m24) 32 = .ok (.if_icmp .ne 5, 3) := by decide +kernel
theorem d24_35 : decode (mB m24) 35 = .ok (.iconst 1, 1) := by decide +kernel
theorem d24_36 : decode (mB m24) 36 = .ok (.ireturn, 1) := by decide +kernel
theorem d24_37 : decode (mB m24) 37 = .ok (.iload_n 1, 1) := by decide +kernel
theorem d24_38 : decode (mB m24) 38 = .ok (.sipush 251, 3) := by decide +kernel
theorem d24_41 : decode (mB m24) 41 = .ok (.if_icmp .ne 5, 3) := by decide +kernel
theorem d24_44 : decode (mB m24) 44 = .ok (.iconst 2, 1) := by decide +kernel
theorem d24_45 : decode (mB m24) 45 = .ok (.ireturn, 1) := by decide +kernel
theorem d24_46 : decode (mB m24) 46 = .ok (.iload_n 1, 1) := by decide +kernel
theorem d24_47 : decode (mB m24) 47 = .ok (.sipush 253, 3) := by decide +kernel
theorem d24_50 : decode (mB m24) 50 = .ok (.if_icmp .ne 5, 3) := by decide +kernel
theorem d24_53 : decode (mB m24) 53 = .ok (.iconst 3, 1) := by decide +kernel
theorem d24_54 : decode (mB m24) 54 = .ok (.ireturn, 1) := by decide +kernel
theorem d24_55 : decode (mB m24) 55 = .ok (.iconst 4, 1) := by decide +kernel
theorem d24_56 : decode (mB m24) 56 = .ok (.ireturn, 1) := by decide +kernel
theorem d25_0 : decode (mB m25) 0 = .ok (.iload_n 1, 1) := by decide +kernel
theorem d25_1 : decode (mB m25) 1 = .ok (.ifCond .lt 11, 3) := by decide +kernel
theorem d25_4 : decode (mB m25) 4 = .ok (.iload_n 1, 1) := by decide +kernel
theorem d25_5 : decode (mB m25) 5 = .ok (.aload_n 0, 1) := by decide +kernel
theorem d25_6 : decode (mB m25) 6 = .ok (.getfield 52, 3) := by decide +kernel
theorem d25_9 : decode (mB m25) 9 = .ok (.if_icmp .lt 5, 3) := by decide +kernel
theorem d25_12 : decode (mB m25) 12 = .ok (.iconst 5, 1) := by decide +kernel
theorem d25_13 : decode (mB m25) 13 = .ok (.ireturn, 1) := by decide +kernel
theorem d25_14 : decode (mB m25) 14 = .ok (.iload_n 1, 1) := by decide +kernel
theorem d25_15 : decode (mB m25) 15 = .ok (.iconst 3, 1) := by decide +kernel
theorem d25_16 : decode (mB m25) 16 = .ok (.ishr, 1) := by decide +kernel
theorem d25_17 : decode (mB m25) 17 = .ok (.istore_n 2, 1) := by decide +kernel
theorem d25_18 : decode (mB m25) 18 = .ok (.iload_n 1, 1) := by decide +kernel
theorem d25_19 : decode (mB m25) 19 = .ok (.bipush 7, 2) := by decide +kernel
theorem d25_21 : decode (mB m25) 21 = .ok (.iand, 1) := by decide +kernel
theorem d25_22 : decode (mB m25) 22 = .ok (.istore_n 3, 1) := by decide +kernel
theorem d25_23 : decode (mB m25) 23 = .ok (.aload_n 0, 1) := by decide +kernel
theorem d25_24 : decode (mB m25) 24 = .ok (.getfield 13, 3) := by decide +kernel
theorem d25_27 : decode (mB m25) 27 = .ok (.iload_n 2, 1) := by decide +kernel
theorem d25_28 : decode (mB m25) 28 = .ok (.iaload, 1) := by decide +kernel
theorem d25_29 : decode (mB m25) 29 = .ok (.istore 4, 2) := by decide +kernel
theorem d25_31 : decode (mB m25) 31 = .ok (.aload_n 0, 1) := by decide +kernel
theorem d25_32 : decode (mB m25) 32 = .ok (.iload 4, 2) := by decide +kernel
theorem d25_34 : decode (mB m25) 34 = .ok (.iload_n 3, 1) := by decide +kernel
theorem d25_35 : decode (mB m25) 35 = .ok (.invokevirtual 206, 3) := by decide +kernel
theorem d25_38 : decode (mB m25) 38 = .ok (.ireturn, 1) := by decide +kernel
theorem d26_0 : decode (mB m26) 0 = .ok (.aload_n 0, 1) := by decide +kernel
theorem d26_1 : decode (mB m26) 1 = .ok (.dup, 1) := by decide +kernel
theorem d26_2 : decode (mB m26) 2 = .ok (.getfield 77, 3) := by decide +kernel
theorem d26_5 : decode (mB m26) 5 = .ok (.iconst 1, 1) := by decide +kernel
theorem d26_6 : decode (mB m26) 6 = .ok (.iadd, 1) := by decide +kernel
theorem d26_7 : decode (mB m26) 7 = .ok (.putfield 77, 3) := by decide +kernel
theorem d26_10 : decode (mB m26) 10 = .ok (.aload_n 0, 1) := by decide +kernel
theorem d26_11 : decode (mB m26) 11 = .ok (.iload_n 1, 1) := by decide +kernel
theorem d26_12 : decode (mB m26) 12 = .ok (.putfield 74, 3) := by decide +kernel
theorem d26_15 : decode (mB m26) 15 = .ok (.return_, 1) := by decide +kernel
theorem d27_0 : decode (mB m27) 0 = .ok (.iconst 0, 1) := by decide +kernel
theorem d27_1 : decode (mB m27) 1 = .ok (.istore_n 3, 1) := by decide +kernel
theorem d27_2 : decode (mB m27) 2 = .ok (.iload_n 3, 1) := by decide +kernel
theorem d27_3 : decode (mB m27) 3 = .ok (.iload_n 2, 1) := by decide +kernel
theorem d27_4 : decode (mB m27) 4 = .ok (.if_icmp .ge 42, 3) := by decide +kernel
theorem d27_7 : decode (mB m27) 7 = .ok (.iload_n 3, 1) := by decide +kernel
theorem d27_8 : decode (mB m27) 8 = .ok (.bipush 8, 2) := by decide +kernel
theorem d27_10 : decode (mB m27) 10 = .ok (.if_icmp .ge 36, 3) := by decide +kernel
theorem d27_13 : decode (mB m27) 13 = .ok (.iload_n 1, 1) := by decide +kernel
theorem d27_14 : decode (mB m27) 14 = .ok (.iload_n 3, 1) := by decide +kernel
theorem d27_15 : decode (mB m27) 15 = .ok (.iadd, 1) := by decide +kernel
theorem d27_16 : decode (mB m27) 16 = .ok (.istore 4, 2) := by decide +kernel
theorem d27_18 : decode (mB m27) 18 = .ok (.aload_n 0, 1) := by decide +kernel
theorem d27_19 : decode (mB m27) 19 = .ok (.iload 4, 2) := by decide +kernel
theorem d27_21 : decode (mB m27) 21 = .ok (.invokevirtual 200, 3) := by decide +kernel
theorem d27_24 : decode (mB m27) 24 = .ok (.istore 5, 2) := by decide +kernel
theorem d27_26 : decode (mB m27) 26 = .ok (.iload 5, 2) := by decide +kernel
theorem d27_28 : decode (mB m27) 28 = .ok (.ifCond .eq 12, 3) := by decide +kernel
theorem d27_31 : decode (mB m27) 31 = .ok (.aload_n 0, 1) := by decide +kernel
theorem d27_32 : decode (mB m27) 32 = .ok (.iload 4, 2) := by decide +kernel
theorem d27_34 : decode (mB m27) 34 = .ok (.invokevirtual 203, 3) := by decide +kernel
theorem d27_37 : decode (mB m27) 37 = .ok (.iload 5, 2) := by decide +kernel
theorem d27_39 : decode (mB m27) 39 = .ok (.ireturn, 1) := by decide +kernel
theorem d27_40 : decode (mB m27) 40 = .ok (.iinc 3 1, 3) := by decide +kernel
theorem d27_43 : decode (mB m27) 43 = .ok (.goto (-41), 3) := by decide +kernel
theorem d27_46 : decode (mB m27) 46 = .ok (.iconst 0, 1) := by decide +kernel
theorem d27_47 : decode (mB m27) 47 = .ok (.ireturn, 1) := by decide +kernel
theorem d28_0 : decode (mB m28) 0 = .ok (.iconst 0, 1) := by decide +kernel
theorem d28_1 : decode (mB m28) 1 = .ok (.istore 5, 2) := by decide +kernel
theorem d28_3 : decode (mB m28) 3 = .ok (.iload 5, 2) := by decide +kernel
theorem d28_5 : decode (mB m28) 5 = .ok (.iload_n 2, 1) := by decide +kernel
theorem d28_6 : decode (mB m28) 6 = .ok (.if_icmp .ge 56, 3) := by decide +kernel
theorem d28_9 : decode (mB m28) 9 = .ok (.iload 5, 2) := by decide +kernel
theorem d28_11 : decode (mB m28) 11 = .ok (.bipush 8, 2) := by decide +kernel
theorem d28_13 : decode (mB m28) 13 = .ok (.if_icmp .ge 49, 3) := by decide +kernel
theorem d28_16 : decode (mB m28) 16 = .ok (.iload_n 1, 1) := by decide +kernel
theorem d28_17 : decode (mB m28) 17 = .ok (.iload 5, 2) := by decide +kernel
theorem d28_19 : decode (mB m28) 19 = .ok (.iadd, 1) := by decide +kernel
theorem d28_20 : decode (mB m28) 20 = .ok (.istore 6, 2) := by decide +kernel
theorem d28_22 : decode (mB m28) 22 = .ok (.iload 6, 2) := by decide +kernel
theorem d28_24 : decode (mB m28) 24 = .ok (.ifCond .lt 32, 3) := by decide +kernel
theorem d28_27 : decode (mB m28) 27 = .ok (.iload 6, 2) := by decide +kernel
theorem d28_29 : decode (mB m28) 29 = .ok (.aload_n 0, 1) := by decide +kernel
theorem d28_30 : decode (mB m28) 30 = .ok (.getfield 52, 3) := by decide +kernel
theorem d28_33 : decode (mB m28) 33 = .ok (.if_icmp .ge 23, 3) := by decide +kernel
theorem d28_36 : decode (mB m28) 36 = .ok (.aload_n 0, 1) := by decide +kernel
theorem d28_37 : decode (mB m28) 37 = .ok (.getfield 7, 3) := by decide +kernel
theorem d28_40 : decode (mB m28) 40 = .ok (.iload 6, 2) := by decide +kernel
theorem d28_42 : decode (mB m28) 42 = .ok (.lload_n 3, 1) := by decide +kernel
theorem d28_43 : decode (mB m28) 43 = .ok (.bipush 8, 2) := by decide +kernel
theorem d28_45 : decode (mB m28) 45 = .ok (.iload 5, 2) := by decide +kernel
theorem d28_47 : decode (mB m28) 47 = .ok (.imul, 1) := by decide +kernel
theorem d28_48 : decode (mB m28) 48 = .ok (.lushr, 1) := by decide +kernel
theorem d28_49 : decode (mB m28) 49 = .ok (.ldc2_w 209, 3) := by decide +kernel
theorem d28_52 : decode (mB m28) 52 = .ok (.land, 1) := by decide +kernel
theorem d28_53 : decode (mB m28) 53 = .ok (.l2i, 1) := by decide +kernel
theorem d28_54 : decode (mB m28) 54 = .ok (.i2b, 1) := by decide +kernel
theorem d28_55 : decode (mB m28) 55 = .ok (.bastore, 1) := by decide +kernel
theorem d28_56 : decode (mB m28) 56 = .ok (.iinc 5 1, 3) := by decide +kernel
theorem d28_59 : decode (mB m28) 59 = .ok (.goto (-56), 3) := by decide +kernel
theorem d28_62 : decode (mB m28) 62 = .ok (.return_, 1) := by decide +kernel
theorem d29_0 : decode (mB m29) 0 = .ok (.aload_n 0, 1) := by decide +kernel
theorem d29_1 : decode (mB m29) 1 = .ok (.iload_n 2, 1) := by decide +kernel
theorem d29_2 : decode (mB m29) 2 = .ok (.invokevirtual 115, 3) := by decide +kernel
theorem d29_5 : decode (mB m29) 5 = .ok (.ifCond .ne 6, 3) := by decide +kernel
theorem d29_8 : decode (mB m29) 8 = .ok (.bipush 6, 2) := by decide +kernel
theorem d29_10 : decode (mB m29) 10 = .ok (.ireturn, 1) := by decide +kernel
theorem d29_11 : decode (mB m29) 11 = .ok (.aload_n 0, 1) := by decide +kernel
theorem d29_12 : decode (mB m29) 12 = .ok (.iload_n 1, 1) := by decide +kernel
theorem d29_13 : decode (mB m29) 13 = .ok (.iload_n 2, 1) := by decide +kernel
theorem d29_14 : decode (mB m29) 14 = .ok (.invokevirtual 118, 3) := by decide +kernel
theorem d29_17 : decode (mB m29) 17 = .ok (.istore 5, 2) := by decide +kernel
theorem d29_19 : decode (mB m29) 19 = .ok (.iload 5, 2) := by decide +kernel
theorem d29_21 : decode (mB m29) 21 = .ok (.ifCond .eq 6, 3) := by decide +kernel
theorem d29_24 : decode (mB m29) 24 = .ok (.iload 5, 2) := by decide +kernel
theorem d29_26 : decode (mB m29) 26 = .ok (.ireturn, 1) := by decide +kernel
theorem d29_27 : decode (mB m29) 27 = .ok (.aload_n 0, 1) := by decide +kernel
theorem d29_28 : decode (mB m29) 28 = .ok (.iload_n 1, 1) := by decide +kernel
theorem d29_29 : decode (mB m29) 29 = .ok (.iload_n 2, 1) := by decide +kernel
theorem d29_30 : decode (mB m29) 30 = .ok (.lload_n 3, 1) := by decide +kernel
theorem d29_31 : decode (mB m29) 31 = .ok (.invokevirtual 126, 3) := by decide +kernel
theorem d29_34 : decode (mB m29) 34 = .ok (.iconst 0, 1) := by decide +kernel
theorem d29_35 : decode (mB m29) 35 = .ok (.ireturn, 1) := by decide +kernel
theorem d30_0 : decode (mB m30) 0 = .ok (.lconst 0, 1) := by decide +kernel
theorem d30_1 : decode (mB m30) 1 = .ok (.lstore_n 3, 1) := by decide +kernel
theorem d30_2 : decode (mB m30) 2 = .ok (.iconst 0, 1) := by decide +kernel
theorem d30_3 : decode (mB m30) 3 = .ok (.istore 5, 2) := by decide +kernel
theorem d30_5 : decode (mB m30) 5 = .ok (.iload 5, 2) := by decide +kernel
theorem d30_7 : decode (mB m30) 7 = .ok (.iload_n 2, 1) := by decide +kernel
theorem d30_8 : decode (mB m30) 8 = .ok (.if_icmp .ge 61, 3) := by decide +kernel
theorem d30_11 : decode (mB m30) 11 = .ok (.iload 5, 2) := by decide +kernel
theorem d30_13 : decode (mB m30) 13 = .ok (.bipush 8, 2) := by decide +kernel
theorem d30_15 : decode (mB m30) 15 = .ok (.if_icmp .ge 54, 3) := by decide +kernel
theorem d30_18 : decode (mB m30) 18 = .ok (.iload_n 1, 1) := by decide +kernel
theorem d30_19 : decode (mB m30) 19 = .ok (.iload 5, 2) := by decide +kernel
theorem d30_21 : decode (mB m30) 21 = .ok (.iadd, 1) := by decide +kernel
theorem d30_22 : decode (mB m30) 22 = .ok (.istore 6, 2) := by decide +kernel
theorem d30_24 : decode (mB m30) 24 = .ok (.iload 6, 2) := by decide +kernel
theorem d30_26 : decode (mB m30) 26 = .ok (.ifCond .lt 37, 3) := by decide +kernel
theorem d30_29 : decode (mB m30) 29 = .ok (.iload 6, 2) := by decide +kernel
theorem d30_31 : decode (mB m30) 31 = .ok (.aload_n 0, 1) := by decide +kernel
theorem d30_32 : decode (mB m30) 32 = .ok (.getfield 52, 3) := by decide +kernel
theorem d30_35 : decode (mB m30) 35 = .ok (.if_icmp .ge 28, 3) := by decide +kernel
theorem d30_38 : decode (mB m30) 38 = .ok (.aload_n 0, 1) := by decide +kernel
theorem d30_39 : decode (mB m30) 39 = .ok (.getfield 7, 3) := by decide +kernel
theorem d30_42 : decode (mB m30) 42 = .ok (.iload 6, 2) := by decide +kernel
theorem d30_44 : decode (mB m30) 44 = .ok (.baload, 1) := by decide +kernel
theorem d30_45 : decode (mB m30) 45 = .ok (.sipush 255, 3) := by decide +kernel
theorem d30_48 : decode (mB m30) 48 = .ok (.iand, 1) := by decide +kernel
theorem d30_49 : decode (mB m30) 49 = .ok (.i2l, 1) := by decide +kernel
theorem d30_50 : decode (mB m30) 50 = .ok (.lstore 7, 2) := by decide +kernel
theorem d30_52 : decode (mB m30) 52 = .ok (.lload_n 3, 1) := by decide +kernel
theorem d30_53 : decode (mB m30) 53 = .ok (.lload 7, 2) := by decide +kernel
theorem d30_55 : decode (mB m30) 55 = .ok (.bipush 8, 2) := by decide +kernel
theorem d30_57 : decode (mB m30) 57 = .ok (.iload 5, 2) := by decide +kernel
theorem d30_59 : decode (mB m30) 59 = .ok (.imul, 1) := by decide +kernel
theorem d30_60 : decode (mB m30) 60 = .ok (.lshl, 1) := by decide +kernel
theorem d30_61 : decode (mB m30) 61 = .ok (.lor, 1) := by decide +kernel
theorem d30_62 : decode (mB m30) 62 = .ok (.lstore_n 3, 1) := by decide +kernel
theorem d30_63 : decode (mB m30) 63 = .ok (.iinc 5 1, 3) := by decide +kernel
theorem d30_66 : decode (mB m30) 66 = .ok (.goto (-61), 3) := by decide +kernel
theorem d30_69 : decode (mB m30) 69 = .ok (.lload_n 3, 1) := by decide +kernel
theorem d30_70 : decode (mB m30) 70 = .ok (.lreturn, 1) := by decide +kernel
theorem d31_0 : decode (mB m31) 0 = .ok (.aload_n 0, 1) := by decide +kernel
theorem d31_1 : decode (mB m31) 1 = .ok (.iload_n 2, 1) := by decide +kernel
theorem d31_2 : decode (mB m31) 2 = .ok (.invokevirtual 115, 3) := by decide +kernel
theorem d31_5 : decode (mB m31) 5 = .ok (.ifCond .ne 6, 3) := by decide +kernel
theorem d31_8 : decode (mB m31) 8 = .ok (.bipush 6, 2) := by decide +kernel
theorem d31_10 : decode (mB m31) 10 = .ok (.ireturn, 1) := by decide +kernel
theorem d31_11 : decode (mB m31) 11 = .ok (.aload_n 0, 1) := by decide +kernel
theorem d31_12 : decode (mB m31) 12 = .ok (.iload_n 1, 1) := by decide +kernel
theorem d31_13 : decode (mB m31) 13 = .ok (.iload_n 2, 1) := by decide +kernel
theorem d31_14 : decode (mB m31) 14 = .ok (.invokevirtual 118, 3) := by decide +kernel
theorem d31_17 : decode (mB m31) 17 = .ok (.istore_n 3, 1) := by decide +kernel
theorem d31_18 : decode (mB m31) 18 = .ok (.iload_n 3, 1) := by decide +kernel
theorem d31_19 : decode (mB m31) 19 = .ok (.ifCond .eq 5, 3) := by decide +kernel
theorem d31_22 : decode (mB m31) 22 = .ok (.iload_n 3, 1) := by decide +kernel
theorem d31_23 : decode (mB m31) 23 = .ok (.ireturn, 1) := by decide +kernel
theorem d31_24 : decode (mB m31) 24 = .ok (.aload_n 0, 1) := by decide +kernel
theorem d31_25 : decode (mB m31) 25 = .ok (.aload_n 0, 1) := by decide +kernel
theorem d31_26 : decode (mB m31) 26 = .ok (.iload_n 1, 1) := by decide +kernel
theorem d31_27 : decode (mB m31) 27 = .ok (.iload_n 2, 1) := by decide +kernel
theorem d31_28 : decode (mB m31) 28 = .ok (.invokevirtual 122, 3) := by decide +kernel
theorem d31_31 : decode (mB m31) 31 = .ok (.putfield 70, 3) := by decide +kernel
theorem d31_34 : decode (mB m31) 34 = .ok (.iconst 0, 1) := by decide +kernel
theorem d31_35 : decode (mB m31) 35 = .ok (.ireturn, 1) := by decide +kernel
theorem d32_0 : decode (mB m32) 0 = .ok (.aload_n 0, 1) := by decide +kernel
theorem d32_1 : decode (mB m32) 1 = .ok (.getfield 70, 3) := by decide +kernel
theorem d32_4 : decode (mB m32) 4 = .ok (.lreturn, 1) := by decide +kernel
theorem d33_0 : decode (mB m33) 0 = .ok (.aload_n 0, 1) := by decide +kernel
theorem d33_1 : decode (mB m33) 1 = .ok (.getfield 74, 3) := by decide +kernel
theorem d33_4 : decode (mB m33) 4 = .ok (.ireturn, 1) := by decide +kernel
theorem d34_0 : decode (mB m34) 0 = .ok (.iload_n 1, 1) := by decide +kernel
theorem d34_1 : decode (mB m34) 1 = .ok (.ifCond .lt 11, 3) := by decide +kernel
theorem d34_4 : decode (mB m34) 4 = .ok (.iload_n 1, 1) := by decide +kernel
theorem d34_5 : decode (mB m34) 5 = .ok (.aload_n 0, 1) := by decide +kernel
theorem d34_6 : decode (mB m34) 6 = .ok (.getfield 52, 3) := by decide +kernel
theorem d34_9 : decode (mB m34) 9 = .ok (.if_icmp .lt 5, 3) := by decide +kernel
theorem d34_12 : decode (mB m34) 12 = .ok (.iconst (-1), 1) := by decide +kernel
theorem d34_13 : decode (mB m34) 13 = .ok (.ireturn, 1) := by decide +kernel
theorem d34_14 : decode (mB m34) 14 = .ok (.iload_n 1, 1) := by decide +kernel
theorem d34_15 : decode (mB m34) 15 = .ok (.bipush 7, 2) := by decide +kernel
theorem d34_17 : decode (mB m34) 17 = .ok (.iand, 1) := by decide +kernel
theorem d34_18 : decode (mB m34) 18 = .ok (.ifCond .eq 5, 3) := by decide +kernel
theorem d34_21 : decode (mB m34) 21 = .ok (.iconst (-1), 1) := by decide +kernel
theorem d34_22 : decode (mB m34) 22 = .ok (.ireturn, 1) := by decide +kernel
theorem d34_23 : decode (mB m34) 23 = .ok (.iload_n 1, 1) := by decide +kernel
theorem d34_24 : decode (mB m34) 24 = .ok (.iconst 3, 1) := by decide +kernel
theorem d34_25 : decode (mB m34) 25 = .ok (.ishr, 1) := by decide +kernel
theorem d34_26 : decode (mB m34) 26 = .ok (.istore_n 2, 1) := by decide +kernel
theorem d34_27 : decode (mB m34) 27 = .ok (.aload_n 0, 1) := by decide +kernel
theorem d34_28 : decode (mB m34) 28 = .ok (.getfield 17, 3) := by decide +kernel
theorem d34_31 : decode (mB m34) 31 = .ok (.iload_n 2, 1) := by decide +kernel
theorem d34_32 : decode (mB m34) 32 = .ok (.iaload, 1) := by decide +kernel
theorem d34_33 : decode (mB m34) 33 = .ok (.istore_n 3, 1) := by decide +kernel
theorem d34_34 : decode (mB m34) 34 = .ok (.aload_n 0, 1) := by decide +kernel
theorem d34_35 : decode (mB m34) 35 = .ok (.iload_n 3, 1) := by decide +kernel
theorem d34_36 : decode (mB m34) 36 = .ok (.invokevirtual 139, 3) := by decide +kernel
theorem d34_39 : decode (mB m34) 39 = .ok (.ifCond .ne 5, 3) := by decide +kernel
theorem d34_42 : decode (mB m34) 42 = .ok (.iconst (-1), 1) := by decide +kernel
theorem d34_43 : decode (mB m34) 43 = .ok (.ireturn, 1) := by decide +kernel
theorem d34_44 : decode (mB m34) 44 = .ok (.aload_n 0, 1) := by decide +kernel
theorem d34_45 : decode (mB m34) 45 = .ok (.getfield 26, 3) := by decide +kernel
theorem d34_48 : decode (mB m34) 48 = .ok (.iload_n 3, 1) := by decide +kernel
theorem d34_49 : decode (mB m34) 49 = .ok (.baload, 1) := by decide +kernel
theorem d34_50 : decode (mB m34) 50 = .ok (.ifCond .ne 5, 3) := by decide +kernel
theorem d34_53 : decode (mB m34) 53 = .ok (.iconst (-1), 1) := by decide +kernel
theorem d34_54 : decode (mB m34) 54 = .ok (.ireturn, 1) := by decide +kernel
theorem d34_55 : decode (mB m34) 55 = .ok (.aload_n 0, 1) := by decide +kernel
theorem d34_56 : decode (mB m34) 56 = .ok (.iload_n 3, 1) := by decide +kernel
theorem d34_57 : decode (mB m34) 57 = .ok (.invokevirtual 151, 3) := by decide +kernel
theorem d34_60 : decode (mB m34) 60 = .ok (.iload_n 2, 1) := by decide +kernel
theorem d34_61 : decode (mB m34) 61 = .ok (.if_icmp .eq 5, 3) := by decide +kernel
theorem d34_64 : decode (mB m34) 64 = .ok (.iconst (-1), 1) := by decide +kernel
theorem d34_65 : decode (mB m34) 65 = .ok (.ireturn, 1) := by decide +kernel
theorem d34_66 : decode (mB m34) 66 = .ok (.iload_n 3, 1) := by decide +kernel
theorem d34_67 : decode (mB m34) 67 = .ok (.ireturn, 1) := by decide +kernel
theorem d35_0 : decode (mB m35) 0 = .ok (.aload_n 0, 1) := by decide +kernel
theorem d35_1 : decode (mB m35) 1 = .ok (.iload_n 1, 1) := by decide +kernel
theorem d35_2 : decode (mB m35) 2 = .ok (.invokevirtual 139, 3) := by decide +kernel
theorem d35_5 : decode (mB m35) 5 = .ok (.ifCond .eq 17, 3) := by decide +kernel
theorem d35_8 : decode (mB m35) 8 = .ok (.aload_n 0, 1) := by decide +kernel
theorem d35_9 : decode (mB m35) 9 = .ok (.getfield 26, 3) := by decide +kernel
theorem d35_12 : decode (mB m35) 12 = .ok (.iload_n 1, 1) := by decide +kernel
theorem d35_13 : decode (mB m35) 13 = .ok (.baload, 1) := by decide +kernel
theorem d35_14 : decode (mB m35) 14 = .ok (.iconst 1, 1) := by decide +kernel
theorem d35_15 : decode (mB m35) 15 = .ok (.if_icmp .ne 7, 3) := by decide +kernel
theorem d35_18 : decode (mB m35) 18 = .ok (.iconst 1, 1) := by decide +kernel
theorem d35_19 : decode (mB m35) 19 = .ok (.goto 4, 3) := by decide +kernel
theorem d35_22 : decode (mB m35) 22 = .ok (.iconst 0, 1) := by decide +kernel
theorem d35_23 : decode (mB m35) 23 = .ok (.ireturn, 1) := by decide +kernel
theorem d36_0 : decode (mB m36) 0 = .ok (.aload_n 0, 1) := by decide +kernel
theorem d36_1 : decode (mB m36) 1 = .ok (.iload_n 1, 1) := by decide +kernel
theorem d36_2 : decode (mB m36) 2 = .ok (.invokevirtual 98, 3) := by decide +kernel
theorem d36_5 : decode (mB m36) 5 = .ok (.istore_n 2, 1) := by decide +kernel
theorem d36_6 : decode (mB m36) 6 = .ok (.aload_n 0, 1) := by decide +kernel
theorem d36_7 : decode (mB m36) 7 = .ok (.iload_n 2, 1) := by decide +kernel
theorem d36_8 : decode (mB m36) 8 = .ok (.invokevirtual 105, 3) := by decide +kernel
theorem d36_11 : decode (mB m36) 11 = .ok (.ifCond .ne 5, 3) := by decide +kernel
theorem d36_14 : decode (mB m36) 14 = .ok (.iconst (-1), 1) := by decide +kernel
theorem d36_15 : decode (mB m36) 15 = .ok (.ireturn, 1) := by decide +kernel
theorem d36_16 : decode (mB m36) 16 = .ok (.aload_n 0, 1) := by decide +kernel
theorem d36_17 : decode (mB m36) 17 = .ok (.getfield 23, 3) := by decide +kernel
theorem d36_20 : decode (mB m36) 20 = .ok (.iload_n 2, 1) := by decide +kernel
theorem d36_21 : decode (mB m36) 21 = .ok (.iaload, 1) := by decide +kernel
theorem d36_22 : decode (mB m36) 22 = .ok (.ireturn, 1) := by decide +kernel
theorem d37_0 : decode (mB m37) 0 = .ok (.aload_n 0, 1) := by decide +kernel
theorem d37_1 : decode (mB m37) 1 = .ok (.iload_n 1, 1) := by decide +kernel
theorem d37_2 : decode (mB m37) 2 = .ok (.invokevirtual 139, 3) := by decide +kernel
theorem d37_5 : decode (mB m37) 5 = .ok (.ifCond .eq 17, 3) := by decide +kernel
theorem d37_8 : decode (mB m37) 8 = .ok (.aload_n 0, 1) := by decide +kernel
theorem d37_9 : decode (mB m37) 9 = .ok (.getfield 26, 3) := by decide +kernel
theorem d37_12 : decode (mB m37) 12 = .ok (.iload_n 1, 1) := by decide +kernel
theorem d37_13 : decode (mB m37) 13 = .ok (.baload, 1) := by decide +kernel
theorem d37_14 : decode (mB m37) 14 = .ok (.iconst 2, 1) := by decide +kernel
theorem d37_15 : decode (mB m37) 15 = .ok (.if_icmp .ne 7, 3) := by decide +kernel
theorem d37_18 : decode (mB m37) 18 = .ok (.iconst 1, 1) := by decide +kernel
theorem d37_19 : decode (mB m37) 19 = .ok (.goto 4, 3) := by decide +kernel
theorem d37_22 : decode (mB m37) 22 = .ok (.iconst 0, 1) := by decide +kernel
theorem d37_23 : decode (mB m37) 23 = .ok (.ireturn, 1) := by decide +kernel
theorem d38_0 : decode (mB m38) 0 = .ok (.aload_n 0, 1) := by decide +kernel
theorem d38_1 : decode (mB m38) 1 = .ok (.iload_n 1, 1) := by decide +kernel
theorem d38_2 : decode (mB m38) 2 = .ok (.invokevirtual 151, 3) := by decide +kernel
theorem d38_5 : decode (mB m38) 5 = .ok (.istore_n 2, 1) := by decide +kernel
theorem d38_6 : decode (mB m38) 6 = .ok (.aload_n 0, 1) := by decide +kernel
theorem d38_7 : decode (mB m38) 7 = .ok (.getfield 23, 3) := by decide +kernel
theorem d38_10 : decode (mB m38) 10 = .ok (.iload_n 1, 1) := by decide +kernel
theorem d38_11 : decode (mB m38) 11 = .ok (.iaload, 1) := by decide +kernel
theorem d38_12 : decode (mB m38) 12 = .ok (.istore_n 3, 1) := by decide +kernel
theorem d38_13 : decode (mB m38) 13 = .ok (.aload_n 0, 1) := by decide +kernel
theorem d38_14 : decode (mB m38) 14 = .ok (.iload_n 3, 1) := by decide +kernel
theorem d38_15 : decode (mB m38) 15 = .ok (.invokevirtual 148, 3) := by decide +kernel
theorem d38_18 : decode (mB m38) 18 = .ok (.istore 4, 2) := by decide +kernel
theorem d38_20 : decode (mB m38) 20 = .ok (.aload_n 0, 1) := by decide +kernel
theorem d38_21 : decode (mB m38) 21 = .ok (.iload_n 2, 1) := by decide +kernel
theorem d38_22 : decode (mB m38) 22 = .ok (.iload 4, 2) := by decide +kernel
theorem d38_24 : decode (mB m38) 24 = .ok (.sipush 253, 3) := by decide +kernel
theorem d38_27 : decode (mB m38) 27 = .ok (.invokevirtual 157, 3) := by decide +kernel
theorem d38_30 : decode (mB m38) 30 = .ok (.return_, 1) := by decide +kernel
theorem d39_0 : decode (mB m39) 0 = .ok (.aload_n 0, 1) := by decide +kernel
theorem d39_1 : decode (mB m39) 1 = .ok (.iload_n 1, 1) := by decide +kernel
theorem d39_2 : decode (mB m39) 2 = .ok (.invokevirtual 139, 3) := by decide +kernel
theorem d39_5 : decode (mB m39) 5 = .ok (.ifCond .ne 5, 3) := by decide +kernel
theorem d39_8 : decode (mB m39) 8 = .ok (.iconst 0, 1) := by decide +kernel
theorem d39_9 : decode (mB m39) 9 = .ok (.ireturn, 1) := by decide +kernel
theorem d39_10 : decode (mB m39) 10 = .ok (.aload_n 0, 1) := by decide +kernel
theorem d39_11 : decode (mB m39) 11 = .ok (.getfield 23, 3) := by decide +kernel
theorem d39_14 : decode (mB m39) 14 = .ok (.iload_n 1, 1) := by decide +kernel
theorem d39_15 : decode (mB m39) 15 = .ok (.iaload, 1) := by decide +kernel
theorem d39_16 : decode (mB m39) 16 = .ok (.istore_n 2, 1) := by decide +kernel
theorem d39_17 : decode (mB m39) 17 = .ok (.bipush 8, 2) := by decide +kernel
theorem d39_19 : decode (mB m39) 19 = .ok (.aload_n 0, 1) := by decide +kernel
theorem d39_20 : decode (mB m39) 20 = .ok (.iload_n 2, 1) := by decide +kernel
theorem d39_21 : decode (mB m39) 21 = .ok (.invokevirtual 80, 3) := by decide +kernel
theorem d39_24 : decode (mB m39) 24 = .ok (.imul, 1) := by decide +kernel
theorem d39_25 : decode (mB m39) 25 = .ok (.ireturn, 1) := by decide +kernel
theorem d40_0 : decode (mB m40) 0 = .ok (.aload_n 0, 1) := by decide +kernel
theorem d40_1 : decode (mB m40) 1 = .ok (.getfield 130, 3) := by decide +kernel
theorem d40_4 : decode (mB m40) 4 = .ok (.bipush 32, 2) := by decide +kernel
theorem d40_6 : decode (mB m40) 6 = .ok (.if_icmp .lt 7, 3) := by decide +kernel
theorem d40_9 : decode (mB m40) 9 = .ok (.aload_n 0, 1) := by decide +kernel
theorem d40_13 : decode (mB m40) 13 = .ok (.aload_n 0, 1) := by decide +kernel
theorem d40_14 : decode (mB m40) 14 = .ok (.getfield 136, 3) := by decide +kernel
theorem d40_17 : decode (mB m40) 17 = .ok (.aload_n 0, 1) := by decide +kernel
theorem d40_18 : decode (mB m40) 18 = .ok (.getfield 130, 3) := by decide +kernel
theorem d40_21 : decode (mB m40) 21 = .ok (.iadd, 1) := by decide +kernel
theorem d40_22 : decode (mB m40) 22 = .ok (.bipush 31, 2) := by decide +kernel
theorem d40_24 : decode (mB m40) 24 = .ok (.iand, 1) := by decide +kernel
theorem d40_25 : decode (mB m40) 25 = .ok (.istore_n 2, 1) := by decide +kernel
theorem d40_26 : decode (mB m40) 26 = .ok (.aload_n 0, 1) := by decide +kernel
theorem d40_27 : decode (mB m40) 27 = .ok (.getfield 29, 3) := by decide +kernel
theorem d40_30 : decode (mB m40) 30 = .ok (.iload_n 2, 1) := by decide +kernel
theorem d40_31 : decode (mB m40) 31 = .ok (.iload_n 1, 1) := by decide +kernel
theorem d40_32 : decode (mB m40) 32 = .ok (.iastore, 1) := by decide +kernel
theorem d40_33 : decode (mB m40) 33 = .ok (.aload_n 0, 1) := by decide +kernel
theorem d40_34 : decode (mB m40) 34 = .ok (.dup, 1) := by decide +kernel
theorem d40_35 : decode (mB m40) 35 = .ok (.getfield 130, 3) := by decide +kernel
theorem d40_38 : decode (mB m40) 38 = .ok (.iconst 1, 1) := by decide +kernel
theorem d40_39 : decode (mB m40) 39 = .ok (.iadd, 1) := by decide +kernel
theorem d40_40 : decode (mB m40) 40 = .ok (.putfield 130, 3) := by decide +kernel
theorem d40_43 : decode (mB m40) 43 = .ok (.aload_n 0, 1) := by decide +kernel
theorem d40_44 : decode (mB m40) 44 = .ok (.dup, 1) := by decide +kernel
theorem d40_45 : decode (mB m40) 45 = .ok (.getfield 133, 3) := by decide +kernel
theorem d40_48 : decode (mB m40) 48 = .ok (.aload_n 0, 1) := by decide +kernel
theorem d40_49 : decode (mB m40) 49 = .ok (.iload_n 1, 1) := by decide +kernel
theorem d40_50 : decode (mB m40) 50 = .ok (.invokevirtual 182, 3) := by decide +kernel
theorem d40_53 : decode (mB m40) 53 = .ok (.iadd, 1) := by decide +kernel
theorem d40_54 : decode (mB m40) 54 = .ok (.putfield 133, 3) := by decide +kernel
theorem d40_57 : decode (mB m40) 57 = .ok (.return_, 1) := by decide +kernel
theorem d41_0 : decode (mB m41) 0 = .ok (.aload_n 0, 1) := by decide +kernel
theorem d41_1 : decode (mB m41) 1 = .ok (.getfield 26, 3) := by decide +kernel
theorem d41_4 : decode (mB m41) 4 = .ok (.iload_n 1, 1) := by decide +kernel
theorem d41_5 : decode (mB m41) 5 = .ok (.iconst 2, 1) := by decide +kernel
theorem d41_6 : decode (mB m41) 6 = .ok (.bastore, 1) := by decide +kernel
theorem d41_7 : decode (mB m41) 7 = .ok (.aload_n 0, 1) := by decide +kernel
theorem d41_8 : decode (mB m41) 8 = .ok (.iload_n 1, 1) := by decide +kernel
theorem d41_9 : decode (mB m41) 9 = .ok (.invokevirtual 170, 3) := by decide +kernel
theorem d41_12 : decode (mB m41) 12 = .ok (.aload_n 0, 1) := by decide +kernel
theorem d41_13 : decode (mB m41) 13 = .ok (.dup, 1) := by decide +kernel
theorem d41_14 : decode (mB m41) 14 = .ok (.getfield 67, 3) := by decide +kernel
theorem d41_17 : decode (mB m41) 17 = .ok (.iconst 1, 1) := by decide +kernel
theorem d41_18 : decode (mB m41) 18 = .ok (.isub, 1) := by decide +kernel
theorem d41_19 : decode (mB m41) 19 = .ok (.putfield 67, 3) := by decide +kernel
theorem d41_22 : decode (mB m41) 22 = .ok (.aload_n 0, 1) := by decide +kernel
theorem d41_23 : decode (mB m41) 23 = .ok (.iload_n 1, 1) := by decide +kernel
theorem d41_24 : decode (mB m41) 24 = .ok (.invokevirtual 173, 3) := by decide +kernel
theorem d41_27 : decode (mB m41) 27 = .ok (.return_, 1) := by decide +kernel
theorem d42_0 : decode (mB m42) 0 = .ok (.iconst 0, 1) := by decide +kernel
theorem d42_1 : decode (mB m42) 1 = .ok (.istore_n 1, 1) := by decide +kernel
theorem d42_2 : decode (mB m42) 2 = .ok (.iload_n 1, 1) := by decide +kernel
theorem d42_3 : decode (mB m42) 3 = .ok (.bipush 64, 2) := by decide +kernel
theorem d42_5 : decode (mB m42) 5 = .ok (.if_icmp .ge 31, 3) := by decide +kernel
theorem d42_8 : decode (mB m42) 8 = .ok (.aload_n 0, 1) := by decide +kernel
theorem d42_9 : decode (mB m42) 9 = .ok (.getfield 133, 3) := by decide +kernel
theorem d42_12 : decode (mB m42) 12 = .ok (.aload_n 0, 1) := by decide +kernel
theorem d42_13 : decode (mB m42) 13 = .ok (.getfield 49, 3) := by decide +kernel
theorem d42_16 : decode (mB m42) 16 = .ok (.if_icmp .le 20, 3) := by decide +kernel
theorem d42_19 : decode (mB m42) 19 = .ok (.aload_n 0, 1) := by decide +kernel
theorem d42_20 : decode (mB m42) 20 = .ok (.getfield 130, 3) := by decide +kernel
theorem d42_23 : decode (mB m42) 23 = .ok (.ifCond .le 13, 3) := by decide +kernel
theorem d42_26 : decode (mB m42) 26 = .ok (.aload_n 0, 1) := by decide +kernel
theorem d42_36 : decode (mB m42) 36 = .ok (.return_, 1) := by decide +kernel
theorem d43_0 : decode (mB m43) 0 = .ok (.aload_n 0, 1) := by decide +kernel
theorem d43_1 : decode (mB m43) 1 = .ok (.iload_n 1, 1) := by decide +kernel
theorem d43_2 : decode (mB m43) 2 = .ok (.invokevirtual 98, 3) := by decide +kernel
theorem d43_5 : decode (mB m43) 5 = .ok (.istore_n 2, 1) := by decide +kernel
theorem d43_6 : decode (mB m43) 6 = .ok (.iload_n 2, 1) := by decide +kernel
theorem d43_7 : decode (mB m43) 7 = .ok (.ifCond .ge 5, 3) := by decide +kernel
theorem d43_10 : decode (mB m43) 10 = .ok (.iconst 2, 1) := by decide +kernel
theorem d43_11 : decode (mB m43) 11 = .ok (.ireturn, 1) := by decide +kernel
theorem d43_12 : decode (mB m43) 12 = .ok (.aload_n 0, 1) := by decide +kernel
theorem d43_13 : decode (mB m43) 13 = .ok (.iload_n 2, 1) := by decide +kernel
theorem d43_14 : decode (mB m43) 14 = .ok (.invokevirtual 101, 3) := by decide +kernel
theorem d43_17 : decode (mB m43) 17 = .ok (.ifCond .eq 5, 3) := by decide +kernel
theorem d43_20 : decode (mB m43) 20 = .ok (.iconst 1, 1) := by decide +kernel
theorem d43_21 : decode (mB m43) 21 = .ok (.ireturn, 1) := by decide +kernel
theorem d43_22 : decode (mB m43) 22 = .ok (.aload_n 0, 1) := by decide +kernel
theorem d43_23 : decode (mB m43) 23 = .ok (.iload_n 2, 1) := by decide +kernel
theorem d43_24 : decode (mB m43) 24 = .ok (.invokevirtual 105, 3) := by decide +kernel
theorem d43_27 : decode (mB m43) 27 = .ok (.ifCond .ne 5, 3) := by decide +kernel
theorem d43_30 : decode (mB m43) 30 = .ok (.iconst 2, 1) := by decide +kernel
theorem d43_31 : decode (mB m43) 31 = .ok (.ireturn, 1) := by decide +kernel
theorem d43_32 : decode (mB m43) 32 = .ok (.aload_n 0, 1) := by decide +kernel
theorem d43_33 : decode (mB m43) 33 = .ok (.iload_n 2, 1) := by decide +kernel
theorem d43_34 : decode (mB m43) 34 = .ok (.invokevirtual 108, 3) := by decide +kernel
theorem d43_37 : decode (mB m43) 37 = .ok (.aload_n 0, 1) := by decide +kernel
theorem d43_38 : decode (mB m43) 38 = .ok (.invokevirtual 112, 3) := by decide +kernel
theorem d43_41 : decode (mB m43) 41 = .ok (.iconst 0, 1) := by decide +kernel
theorem d43_42 : decode (mB m43) 42 = .ok (.ireturn, 1) := by decide +kernel
theorem d44_0 : decode (mB m44) 0 = .ok (.aload_n 0, 1) := by decide +kernel
theorem d44_1 : decode (mB m44) 1 = .ok (.getfield 133, 3) := by decide +kernel
theorem d44_4 : decode (mB m44) 4 = .ok (.ireturn, 1) := by decide +kernel
theorem d45_0 : decode (mB m45) 0 = .ok (.iload_n 1, 1) := by decide +kernel
theorem d45_1 : decode (mB m45) 1 = .ok (.ifCond .lt 11, 3) := by decide +kernel
theorem d45_4 : decode (mB m45) 4 = .ok (.iload_n 1, 1) := by decide +kernel
theorem d45_5 : decode (mB m45) 5 = .ok (.aload_n 0, 1) := by decide +kernel
theorem d45_6 : decode (mB m45) 6 = .ok (.getfield 42, 3) := by decide +kernel
theorem d45_9 : decode (mB m45) 9 = .ok (.if_icmp .lt 5, 3) := by decide +kernel
theorem d45_12 : decode (mB m45) 12 = .ok (.iconst (-1), 1) := by decide +kernel
theorem d45_13 : decode (mB m45) 13 = .ok (.ireturn, 1) := by decide +kernel
theorem d45_14 : decode (mB m45) 14 = .ok (.aload_n 0, 1) := by decide +kernel
theorem d45_15 : decode (mB m45) 15 = .ok (.getfield 13, 3) := by decide +kernel
theorem d45_18 : decode (mB m45) 18 = .ok (.iload_n 1, 1) := by decide +kernel
theorem d45_19 : decode (mB m45) 19 = .ok (.iaload, 1) := by decide +kernel
theorem d45_20 : decode (mB m45) 20 = .ok (.ireturn, 1) := by decide +kernel
theorem d46_0 : decode (mB m46) 0 = .ok (.aload_n 0, 1) := by decide +kernel
theorem d46_1 : decode (mB m46) 1 = .ok (.getfield 77, 3) := by decide +kernel
theorem d46_4 : decode (mB m46) 4 = .ok (.ireturn, 1) := by decide +kernel
theorem d47_0 : decode (mB m47) 0 = .ok (.new 7, 3) := by decide +kernel
theorem d47_3 : decode (mB m47) 3 = .ok (.dup, 1) := by decide +kernel
theorem d47_4 : decode (mB m47) 4 = .ok (.bipush 16, 2) := by decide +kernel
theorem d47_6 : decode (mB m47) 6 = .ok (.iconst 1, 1) := by decide +kernel
theorem d47_7 : decode (mB m47) 7 = .ok (.sipush 256, 3) := by decide +kernel
theorem d47_10 : decode (mB m47) 10 = .ok (.invokespecial 9, 3) := by decide +kernel
theorem d47_13 : decode (mB m47) 13 = .ok (.astore_n 3, 1) := by decide +kernel
theorem d47_14 : decode (mB m47) 14 = .ok (.aload_n 3, 1) := by decide +kernel
theorem d47_15 : decode (mB m47) 15 = .ok (.iload_n 0, 1) := by decide +kernel
theorem d47_16 : decode (mB m47) 16 = .ok (.invokevirtual 12, 3) := by decide +kernel
theorem d47_19 : decode (mB m47) 19 = .ok (.istore 4, 2) := by decide +kernel
theorem d47_21 : decode (mB m47) 21 = .ok (.iload_n 0, 1) := by decide +kernel
theorem d47_22 : decode (mB m47) 22 = .ok (.iconst 1, 1) := by decide +kernel
theorem d47_23 : decode (mB m47) 23 = .ok (.if_icmp .lt 9, 3) := by decide +kernel
theorem d47_26 : decode (mB m47) 26 = .ok (.iload_n 0, 1) := by decide +kernel
theorem d47_27 : decode (mB m47) 27 = .ok (.bipush 64, 2) := by decide +kernel
theorem d47_29 : decode (mB m47) 29 = .ok (.if_icmp .le 26, 3) := by decide +kernel
theorem d47_32 : decode (mB m47) 32 = .ok (.aload_n 3, 1) := by decide +kernel
theorem d47_33 : decode (mB m47) 33 = .ok (.invokevirtual 16, 3) := by decide +kernel
theorem d47_36 : decode (mB m47) 36 = .ok (.istore 5, 2) := by decide +kernel
theorem d47_38 : decode (mB m47) 38 = .ok (.iload 4, 2) := by decide +kernel
theorem d47_40 : decode (mB m47) 40 = .ok (.iconst (-1), 1) := by decide +kernel
theorem d47_41 : decode (mB m47) 41 = .ok (.if_icmp .ne 12, 3) := by decide +kernel
theorem d47_44 : decode (mB m47) 44 = .ok (.iload 5, 2) := by decide +kernel
theorem d47_46 : decode (mB m47) 46 = .ok (.ifCond .ne 7, 3) := by decide +kernel
theorem d47_49 : decode (mB m47) 49 = .ok (.iconst 1, 1) := by decide +kernel
theorem d47_50 : decode (mB m47) 50 = .ok (.goto 4, 3) := by decide +kernel
theorem d47_53 : decode (mB m47) 53 = .ok (.iconst 0, 1) := by decide +kernel
theorem d47_54 : decode (mB m47) 54 = .ok (.ireturn, 1) := by decide +kernel
theorem d47_55 : decode (mB m47) 55 = .ok (.iload 4, 2) := by decide +kernel
theorem d47_57 : decode (mB m47) 57 = .ok (.bipush 8, 2) := by decide +kernel
theorem d47_59 : decode (mB m47) 59 = .ok (.if_icmp .ne 7, 3) := by decide +kernel
theorem d47_62 : decode (mB m47) 62 = .ok (.iconst 1, 1) := by decide +kernel
theorem d47_63 : decode (mB m47) 63 = .ok (.goto 4, 3) := by decide +kernel
theorem d47_66 : decode (mB m47) 66 = .ok (.iconst 0, 1) := by decide +kernel
theorem d47_67 : decode (mB m47) 67 = .ok (.istore 5, 2) := by decide +kernel
theorem d47_69 : decode (mB m47) 69 = .ok (.iload_n 0, 1) := by decide +kernel
theorem d47_70 : decode (mB m47) 70 = .ok (.bipush 7, 2) := by decide +kernel
theorem d47_72 : decode (mB m47) 72 = .ok (.iadd, 1) := by decide +kernel
theorem d47_73 : decode (mB m47) 73 = .ok (.bipush 8, 2) := by decide +kernel
theorem d47_75 : decode (mB m47) 75 = .ok (.idiv, 1) := by decide +kernel
theorem d47_76 : decode (mB m47) 76 = .ok (.istore 6, 2) := by decide +kernel
theorem d47_78 : decode (mB m47) 78 = .ok (.iload_n 0, 1) := by decide +kernel
theorem d47_79 : decode (mB m47) 79 = .ok (.bipush 8, 2) := by decide +kernel
theorem d47_81 : decode (mB m47) 81 = .ok (.if_icmp .ge 7, 3) := by decide +kernel
theorem d47_84 : decode (mB m47) 84 = .ok (.iload_n 0, 1) := by decide +kernel
theorem d47_85 : decode (mB m47) 85 = .ok (.goto 5, 3) := by decide +kernel
theorem d47_88 : decode (mB m47) 88 = .ok (.bipush 8, 2) := by decide +kernel
theorem d47_90 : decode (mB m47) 90 = .ok (.istore 7, 2) := by decide +kernel
theorem d47_92 : decode (mB m47) 92 = .ok (.iconst 0, 1) := by decide +kernel
theorem d47_93 : decode (mB m47) 93 = .ok (.istore 8, 2) := by decide +kernel
theorem d47_95 : decode (mB m47) 95 = .ok (.iload 8, 2) := by decide +kernel
theorem d47_97 : decode (mB m47) 97 = .ok (.bipush 8, 2) := by decide +kernel
theorem d47_99 : decode (mB m47) 99 = .ok (.if_icmp .ge 60, 3) := by decide +kernel
theorem d47_102 : decode (mB m47) 102 = .ok (.aload_n 3, 1) := by decide +kernel
theorem d47_103 : decode (mB m47) 103 = .ok (.iload 4, 2) := by decide +kernel
theorem d47_105 : decode (mB m47) 105 = .ok (.iload 8, 2) := by decide +kernel
theorem d47_107 : decode (mB m47) 107 = .ok (.iadd, 1) := by decide +kernel
theorem d47_108 : decode (mB m47) 108 = .ok (.iconst 1, 1) := by decide +kernel
theorem d47_109 : decode (mB m47) 109 = .ok (.lload_n 1, 1) := by decide +kernel
theorem d47_110 : decode (mB m47) 110 = .ok (.bipush 8, 2) := by decide +kernel
theorem d47_112 : decode (mB m47) 112 = .ok (.iload 8, 2) := by decide +kernel
theorem d47_114 : decode (mB m47) 114 = .ok (.imul, 1) := by decide +kernel
theorem d47_115 : decode (mB m47) 115 = .ok (.lushr, 1) := by decide +kernel
theorem d47_116 : decode (mB m47) 116 = .ok (.invokevirtual 20, 3) := by decide +kernel
theorem d47_119 : decode (mB m47) 119 = .ok (.istore 9, 2) := by decide +kernel
theorem d47_121 : decode (mB m47) 121 = .ok (.iload 8, 2) := by decide +kernel
theorem d47_123 : decode (mB m47) 123 = .ok (.iload_n 0, 1) := by decide +kernel
theorem d47_124 : decode (mB m47) 124 = .ok (.if_icmp .ge 7, 3) := by decide +kernel
theorem d47_127 : decode (mB m47) 127 = .ok (.iconst 0, 1) := by decide +kernel
theorem d47_128 : decode (mB m47) 128 = .ok (.goto 4, 3) := by decide +kernel
theorem d47_131 : decode (mB m47) 131 = .ok (.iconst 2, 1) := by decide +kernel
theorem d47_132 : decode (mB m47) 132 = .ok (.istore 10, 2) := by decide +kernel
theorem d47_134 : decode (mB m47) 134 = .ok (.iload 5, 2) := by decide +kernel
theorem d47_136 : decode (mB m47) 136 = .ok (.ifCond .eq 14, 3) := by decide +kernel
theorem d47_139 : decode (mB m47) 139 = .ok (.iload 9, 2) := by decide +kernel
theorem d47_141 : decode (mB m47) 141 = .ok (.iload 10, 2) := by decide +kernel
theorem d47_143 : decode (mB m47) 143 = .ok (.if_icmp .ne 7, 3) := by decide +kernel
theorem d47_146 : decode (mB m47) 146 = .ok (.iconst 1, 1) := by decide +kernel
theorem d47_147 : decode (mB m47) 147 = .ok (.goto 4, 3) := by decide +kernel
theorem d47_150 : decode (mB m47) 150 = .ok (.iconst 0, 1) := by decide +kernel
theorem d47_151 : decode (mB m47) 151 = .ok (.istore 5, 2) := by decide +kernel
theorem d47_153 : decode (mB m47) 153 = .ok (.iinc 8 1, 3) := by decide +kernel
theorem d47_156 : decode (mB m47) 156 = .ok (.goto (-61), 3) := by decide +kernel
theorem d47_159 : decode (mB m47) 159 = .ok (.iload_n 0, 1) := by decide +kernel
theorem d47_160 : decode (mB m47) 160 = .ok (.bipush 8, 2) := by decide +kernel
theorem d47_162 : decode (mB m47) 162 = .ok (.if_icmp .lt 8, 3) := by decide +kernel
theorem d47_165 : decode (mB m47) 165 = .ok (.bipush 8, 2) := by decide +kernel
theorem d47_167 : decode (mB m47) 167 = .ok (.goto 4, 3) := by decide +kernel
theorem d47_170 : decode (mB m47) 170 = .ok (.iconst 1, 1) := by decide +kernel
theorem d47_171 : decode (mB m47) 171 = .ok (.istore 8, 2) := by decide +kernel
theorem d47_173 : decode (mB m47) 173 = .ok (.aload_n 3, 1) := by decide +kernel
theorem d47_174 : decode (mB m47) 174 = .ok (.iload 4, 2) := by decide +kernel
theorem d47_176 : decode (mB m47) 176 = .ok (.iload 8, 2) := by decide +kernel
theorem d47_178 : decode (mB m47) 178 = .ok (.invokevirtual 24, 3) := by decide +kernel
theorem d47_181 : decode (mB m47) 181 = .ok (.istore 9, 2) := by decide +kernel
theorem d47_183 : decode (mB m47) 183 = .ok (.aload_n 3, 1) := by decide +kernel
theorem d47_184 : decode (mB m47) 184 = .ok (.invokevirtual 28, 3) := by decide +kernel
theorem d47_187 : decode (mB m47) 187 = .ok (.lstore 10, 2) := by decide +kernel
theorem d47_189 : decode (mB m47) 189 = .ok (.iload_n 0, 1) := by decide +kernel
theorem d47_190 : decode (mB m47) 190 = .ok (.bipush 8, 2) := by decide +kernel
theorem d47_192 : decode (mB m47) 192 = .ok (.if_icmp .lt 7, 3) := by decide +kernel
theorem d47_195 : decode (mB m47) 195 = .ok (.lload_n 1, 1) := by decide +kernel
theorem d47_196 : decode (mB m47) 196 = .ok (.goto 8, 3) := by decide +kernel
theorem d47_199 : decode (mB m47) 199 = .ok (.lload_n 1, 1) := by decide +kernel
theorem d47_200 : decode (mB m47) 200 = .ok (.ldc2_w 32, 3) := by decide +kernel
theorem d47_203 : decode (mB m47) 203 = .ok (.land, 1) := by decide +kernel
theorem d47_204 : decode (mB m47) 204 = .ok (.lstore 12, 2) := by decide +kernel
theorem d47_206 : decode (mB m47) 206 = .ok (.iload 5, 2) := by decide +kernel
theorem d47_208 : decode (mB m47) 208 = .ok (.ifCond .eq 20, 3) := by decide +kernel
theorem d47_211 : decode (mB m47) 211 = .ok (.iload 9, 2) := by decide +kernel
theorem d47_213 : decode (mB m47) 213 = .ok (.ifCond .ne 15, 3) := by decide +kernel
theorem d47_216 : decode (mB m47) 216 = .ok (.lload 10, 2) := by decide +kernel
theorem d47_218 : decode (mB m47) 218 = .ok (.lload 12, 2) := by decide +kernel
theorem d47_220 : decode (mB m47) 220 = .ok (.lcmp, 1) := by decide +kernel
theorem d47_221 : decode (mB m47) 221 = .ok (.ifCond .ne 7, 3) := by decide +kernel
theorem d47_224 : decode (mB m47) 224 = .ok (.iconst 1, 1) := by decide +kernel
theorem d47_225 : decode (mB m47) 225 = .ok (.goto 4, 3) := by decide +kernel
theorem d47_228 : decode (mB m47) 228 = .ok (.iconst 0, 1) := by decide +kernel
theorem d47_229 : decode (mB m47) 229 = .ok (.istore 5, 2) := by decide +kernel
theorem d47_231 : decode (mB m47) 231 = .ok (.aload_n 3, 1) := by decide +kernel
theorem d47_232 : decode (mB m47) 232 = .ok (.iload 4, 2) := by decide +kernel
theorem d47_234 : decode (mB m47) 234 = .ok (.iload_n 0, 1) := by decide +kernel
theorem d47_235 : decode (mB m47) 235 = .ok (.iadd, 1) := by decide +kernel
theorem d47_236 : decode (mB m47) 236 = .ok (.iconst 1, 1) := by decide +kernel
theorem d47_237 : decode (mB m47) 237 = .ok (.invokevirtual 24, 3) := by decide +kernel
theorem d47_240 : decode (mB m47) 240 = .ok (.istore 14, 2) := by decide +kernel
theorem d47_242 : decode (mB m47) 242 = .ok (.aload_n 3, 1) := by decide +kernel
theorem d47_243 : decode (mB m47) 243 = .ok (.invokevirtual 34, 3) := by decide +kernel
theorem d47_246 : decode (mB m47) 246 = .ok (.istore 15, 2) := by decide +kernel
theorem d47_248 : decode (mB m47) 248 = .ok (.iload 5, 2) := by decide +kernel
theorem d47_250 : decode (mB m47) 250 = .ok (.ifCond .eq 22, 3) := by decide +kernel
theorem d47_253 : decode (mB m47) 253 = .ok (.iload 14, 2) := by decide +kernel
theorem d47_255 : decode (mB m47) 255 = .ok (.iconst 2, 1) := by decide +kernel
theorem d47_256 : decode (mB m47) 256 = .ok (.if_icmp .ne 16, 3) := by decide +kernel
theorem d47_259 : decode (mB m47) 259 = .ok (.iload 15, 2) := by decide +kernel
theorem d47_261 : decode (mB m47) 261 = .ok (.iload 4, 2) := by decide +kernel
theorem d47_263 : decode (mB m47) 263 = .ok (.iload_n 0, 1) := by decide +kernel
theorem d47_264 : decode (mB m47) 264 = .ok (.iadd, 1) := by decide +kernel
theorem d47_265 : decode (mB m47) 265 = .ok (.if_icmp .ne 7, 3) := by decide +kernel
theorem d47_268 : decode (mB m47) 268 = .ok (.iconst 1, 1) := by decide +kernel
theorem d47_269 : decode (mB m47) 269 = .ok (.goto 4, 3) := by decide +kernel
theorem d47_272 : decode (mB m47) 272 = .ok (.iconst 0, 1) := by decide +kernel
theorem d47_273 : decode (mB m47) 273 = .ok (.istore 5, 2) := by decide +kernel
theorem d47_275 : decode (mB m47) 275 = .ok (.aload_n 3, 1) := by decide +kernel
theorem d47_276 : decode (mB m47) 276 = .ok (.iload 4, 2) := by decide +kernel
theorem d47_278 : decode (mB m47) 278 = .ok (.iconst 1, 1) := by decide +kernel
theorem d47_279 : decode (mB m47) 279 = .ok (.isub, 1) := by decide +kernel
theorem d47_280 : decode (mB m47) 280 = .ok (.iconst 1, 1) := by decide +kernel
theorem d47_281 : decode (mB m47) 281 = .ok (.invokevirtual 24, 3) := by decide +kernel
theorem d47_284 : decode (mB m47) 284 = .ok (.istore 16, 2) := by decide +kernel
theorem d47_286 : decode (mB m47) 286 = .ok (.aload_n 3, 1) := by decide +kernel
theorem d47_287 : decode (mB m47) 287 = .ok (.invokevirtual 34, 3) := by decide +kernel
theorem d47_290 : decode (mB m47) 290 = .ok (.istore 17, 2) := by decide +kernel
theorem d47_292 : decode (mB m47) 292 = .ok (.iload 5, 2) := by decide +kernel
theorem d47_294 : decode (mB m47) 294 = .ok (.ifCond .eq 22, 3) := by decide +kernel
theorem d47_297 : decode (mB m47) 297 = .ok (.iload 16, 2) := by decide +kernel
theorem d47_299 : decode (mB m47) 299 = .ok (.iconst 1, 1) := by decide +kernel
theorem d47_300 : decode (mB m47) 300 = .ok (.if_icmp .ne 16, 3) := by decide +kernel
theorem d47_303 : decode (mB m47) 303 = .ok (.iload 17, 2) := by decide +kernel
theorem d47_305 : decode (mB m47) 305 = .ok (.iload 4, 2) := by decide +kernel
theorem d47_307 : decode (mB m47) 307 = .ok (.iconst 1, 1) := by decide +kernel
theorem d47_308 : decode (mB m47) 308 = .ok (.isub, 1) := by decide +kernel
theorem d47_309 : decode (mB m47) 309 = .ok (.if_icmp .ne 7, 3) := by decide +kernel
theorem d47_312 : decode (mB m47) 312 = .ok (.iconst 1, 1) := by decide +kernel
theorem d47_313 : decode (mB m47) 313 = .ok (.goto 4, 3) := by decide +kernel
theorem d47_316 : decode (mB m47) 316 = .ok (.iconst 0, 1) := by decide +kernel
theorem d47_317 : decode (mB m47) 317 = .ok (.istore 5, 2) := by decide +kernel
theorem d47_319 : decode (mB m47) 319 = .ok (.aload_n 3, 1) := by decide +kernel
theorem d47_320 : decode (mB m47) 320 = .ok (.iload 4, 2) := by decide +kernel
theorem d47_322 : decode (mB m47) 322 = .ok (.invokevirtual 37, 3) := by decide +kernel
theorem d47_325 : decode (mB m47) 325 = .ok (.istore 18, 2) := by decide +kernel
theorem d47_327 : decode (mB m47) 327 = .ok (.iload 5, 2) := by decide +kernel
theorem d47_329 : decode (mB m47) 329 = .ok (.ifCond .eq 13, 3) := by decide +kernel
theorem d47_332 : decode (mB m47) 332 = .ok (.iload 18, 2) := by decide +kernel
theorem d47_334 : decode (mB m47) 334 = .ok (.iload_n 0, 1) := by decide +kernel
theorem d47_335 : decode (mB m47) 335 = .ok (.if_icmp .ne 7, 3) := by decide +kernel
theorem d47_338 : decode (mB m47) 338 = .ok (.iconst 1, 1) := by decide +kernel
theorem d47_339 : decode (mB m47) 339 = .ok (.goto 4, 3) := by decide +kernel
theorem d47_342 : decode (mB m47) 342 = .ok (.iconst 0, 1) := by decide +kernel
theorem d47_343 : decode (mB m47) 343 = .ok (.istore 5, 2) := by decide +kernel
theorem d47_345 : decode (mB m47) 345 = .ok (.aload_n 3, 1) := by decide +kernel
theorem d47_346 : decode (mB m47) 346 = .ok (.iload 4, 2) := by decide +kernel
theorem d47_348 : decode (mB m47) 348 = .ok (.invokevirtual 40, 3) := by decide +kernel
theorem d47_351 : decode (mB m47) 351 = .ok (.istore 19, 2) := by decide +kernel
theorem d47_353 : decode (mB m47) 353 = .ok (.aload_n 3, 1) := by decide +kernel
theorem d47_354 : decode (mB m47) 354 = .ok (.invokevirtual 43, 3) := by decide +kernel
theorem d47_357 : decode (mB m47) 357 = .ok (.istore 20, 2) := by decide +kernel
theorem d47_359 : decode (mB m47) 359 = .ok (.aload_n 3, 1) := by decide +kernel
theorem d47_360 : decode (mB m47) 360 = .ok (.iconst 1, 1) := by decide +kernel
theorem d47_361 : decode (mB m47) 361 = .ok (.invokevirtual 46, 3) := by decide +kernel
theorem d47_364 : decode (mB m47) 364 = .ok (.istore 21, 2) := by decide +kernel
theorem d47_366 : decode (mB m47) 366 = .ok (.iload 5, 2) := by decide +kernel
theorem d47_368 : decode (mB m47) 368 = .ok (.ifCond .eq 32, 3) := by decide +kernel
theorem d47_371 : decode (mB m47) 371 = .ok (.iload 19, 2) := by decide +kernel
theorem d47_373 : decode (mB m47) 373 = .ok (.ifCond .ne 27, 3) := by decide +kernel
theorem d47_376 : decode (mB m47) 376 = .ok (.iload 20, 2) := by decide +kernel
theorem d47_378 : decode (mB m47) 378 = .ok (.bipush 8, 2) := by decide +kernel
theorem d47_380 : decode (mB m47) 380 = .ok (.iconst 2, 1) := by decide +kernel
theorem d47_381 : decode (mB m47) 381 = .ok (.iload 6, 2) := by decide +kernel
theorem d47_383 : decode (mB m47) 383 = .ok (.iadd, 1) := by decide +kernel
theorem d47_384 : decode (mB m47) 384 = .ok (.imul, 1) := by decide +kernel
theorem d47_385 : decode (mB m47) 385 = .ok (.if_icmp .ne 15, 3) := by decide +kernel
theorem d47_388 : decode (mB m47) 388 = .ok (.iload 21, 2) := by decide +kernel
theorem d47_390 : decode (mB m47) 390 = .ok (.sipush 253, 3) := by decide +kernel
theorem d47_393 : decode (mB m47) 393 = .ok (.if_icmp .ne 7, 3) := by decide +kernel
theorem d47_396 : decode (mB m47) 396 = .ok (.iconst 1, 1) := by decide +kernel
theorem d47_397 : decode (mB m47) 397 = .ok (.goto 4, 3) := by decide +kernel
theorem d47_400 : decode (mB m47) 400 = .ok (.iconst 0, 1) := by decide +kernel
theorem d47_401 : decode (mB m47) 401 = .ok (.istore 5, 2) := by decide +kernel
theorem d47_403 : decode (mB m47) 403 = .ok (.aload_n 3, 1) := by decide +kernel
theorem d47_404 : decode (mB m47) 404 = .ok (.iload 4, 2) := by decide +kernel
theorem d47_406 : decode (mB m47) 406 = .ok (.iconst 1, 1) := by decide +kernel
theorem d47_407 : decode (mB m47) 407 = .ok (.invokevirtual 24, 3) := by decide +kernel
theorem d47_410 : decode (mB m47) 410 = .ok (.istore 22, 2) := by decide +kernel
theorem d47_412 : decode (mB m47) 412 = .ok (.aload_n 3, 1) := by decide +kernel
theorem d47_413 : decode (mB m47) 413 = .ok (.iload 4, 2) := by decide +kernel
theorem d47_415 : decode (mB m47) 415 = .ok (.invokevirtual 40, 3) := by decide +kernel
theorem d47_418 : decode (mB m47) 418 = .ok (.istore 23, 2) := by decide +kernel
theorem d47_420 : decode (mB m47) 420 = .ok (.aload_n 3, 1) := by decide +kernel
theorem d47_421 : decode (mB m47) 421 = .ok (.invokevirtual 49, 3) := by decide +kernel
theorem d47_424 : decode (mB m47) 424 = .ok (.istore 24, 2) := by decide +kernel
theorem d47_426 : decode (mB m47) 426 = .ok (.aload_n 3, 1) := by decide +kernel
theorem d47_427 : decode (mB m47) 427 = .ok (.invokevirtual 34, 3) := by decide +kernel
theorem d47_430 : decode (mB m47) 430 = .ok (.istore 25, 2) := by decide +kernel
theorem d47_432 : decode (mB m47) 432 = .ok (.aload_n 3, 1) := by decide +kernel
theorem d47_433 : decode (mB m47) 433 = .ok (.invokevirtual 16, 3) := by decide +kernel
theorem d47_436 : decode (mB m47) 436 = .ok (.istore 26, 2) := by decide +kernel
theorem d47_438 : decode (mB m47) 438 = .ok (.iload 5, 2) := by decide +kernel
theorem d47_440 : decode (mB m47) 440 = .ok (.ifCond .eq 43, 3) := by decide +kernel
theorem d47_443 : decode (mB m47) 443 = .ok (.iload 22, 2) := by decide +kernel
theorem d47_445 : decode (mB m47) 445 = .ok (.iconst 3, 1) := by decide +kernel
theorem d47_446 : decode (mB m47) 446 = .ok (.if_icmp .ne 37, 3) := by decide +kernel
theorem d47_449 : decode (mB m47) 449 = .ok (.iload 23, 2) := by decide +kernel
theorem d47_451 : decode (mB m47) 451 = .ok (.iconst 1, 1) := by decide +kernel
theorem d47_452 : decode (mB m47) 452 = .ok (.if_icmp .ne 31, 3) := by decide +kernel
theorem d47_455 : decode (mB m47) 455 = .ok (.iload 24, 2) := by decide +kernel
theorem d47_457 : decode (mB m47) 457 = .ok (.bipush 8, 2) := by decide +kernel
theorem d47_459 : decode (mB m47) 459 = .ok (.iload 7, 2) := by decide +kernel
theorem d47_461 : decode (mB m47) 461 = .ok (.isub, 1) := by decide +kernel
theorem d47_462 : decode (mB m47) 462 = .ok (.iconst 3, 1) := by decide +kernel
theorem d47_463 : decode (mB m47) 463 = .ok (.iadd, 1) := by decide +kernel
theorem d47_464 : decode (mB m47) 464 = .ok (.if_icmp .ne 19, 3) := by decide +kernel
theorem d47_467 : decode (mB m47) 467 = .ok (.iload 25, 2) := by decide +kernel
theorem d47_469 : decode (mB m47) 469 = .ok (.iload 4, 2) := by decide +kernel
theorem d47_471 : decode (mB m47) 471 = .ok (.if_icmp .ne 12, 3) := by decide +kernel
theorem d47_474 : decode (mB m47) 474 = .ok (.iload 26, 2) := by decide +kernel
theorem d47_476 : decode (mB m47) 476 = .ok (.ifCond .ne 7, 3) := by decide +kernel
theorem d47_479 : decode (mB m47) 479 = .ok (.iconst 1, 1) := by decide +kernel
theorem d47_480 : decode (mB m47) 480 = .ok (.goto 4, 3) := by decide +kernel
theorem d47_483 : decode (mB m47) 483 = .ok (.iconst 0, 1) := by decide +kernel
theorem d47_484 : decode (mB m47) 484 = .ok (.istore 5, 2) := by decide +kernel
theorem d47_486 : decode (mB m47) 486 = .ok (.iload 5, 2) := by decide +kernel
theorem d47_488 : decode (mB m47) 488 = .ok (.ireturn, 1) := by decide +kernel
theorem cb_m2 : (-2 : Int32) = (Int8.ofInt (-2)).toInt32 := by decide
theorem cb_6 : (6 : Int32) = (Int8.ofInt (6)).toInt32 := by decide
theorem cb_7 : (7 : Int32) = (Int8.ofInt (7)).toInt32 := by decide
theorem cb_8 : (8 : Int32) = (Int8.ofInt (8)).toInt32 := by decide
theorem cb_16 : (16 : Int32) = (Int8.ofInt (16)).toInt32 := by decide
theorem cb_31 : (31 : Int32) = (Int8.ofInt (31)).toInt32 := by decide
theorem cb_32 : (32 : Int32) = (Int8.ofInt (32)).toInt32 := by decide
theorem cb_64 : (64 : Int32) = (Int8.ofInt (64)).toInt32 := by decide
theorem ci_m1 : (-1 : Int32) = Int32.ofInt (-1) := by decide
theorem ci_0 : (0 : Int32) = Int32.ofInt (0) := by decide
theorem ci_1 : (1 : Int32) = Int32.ofInt (1) := by decide
theorem ci_2 : (2 : Int32) = Int32.ofInt (2) := by decide
theorem ci_3 : (3 : Int32) = Int32.ofInt (3) := by decide
theorem ci_4 : (4 : Int32) = Int32.ofInt (4) := by decide
theorem ci_5 : (5 : Int32) = Int32.ofInt (5) := by decide
theorem cl_0 : (0 : Int64) = Int64.ofNat ((0 : Fin 2)) := by decide
theorem cs_250 : (250 : Int32) = (Int16.ofInt (250)).toInt32 := by decide
theorem cs_251 : (251 : Int32) = (Int16.ofInt (251)).toInt32 := by decide
theorem cs_253 : (253 : Int32) = (Int16.ofInt (253)).toInt32 := by decide
theorem cs_254 : (254 : Int32) = (Int16.ofInt (254)).toInt32 := by decide
theorem cs_255 : (255 : Int32) = (Int16.ofInt (255)).toInt32 := by decide
theorem cs_256 : (256 : Int32) = (Int16.ofInt (256)).toInt32 := by decide
theorem j_1_5 : 0 ≤ ((1 : Nat) : Int) + (5) ∧ (((1 : Nat) : Int) + (5)).toNat = 6 := by decide
theorem j_1_11 : 0 ≤ ((1 : Nat) : Int) + (11) ∧ (((1 : Nat) : Int) + (11)).toNat = 12 := by decide
theorem j_1_13 : 0 ≤ ((1 : Nat) : Int) + (13) ∧ (((1 : Nat) : Int) + (13)).toNat = 14 := by decide
theorem j_2_5 : 0 ≤ ((2 : Nat) : Int) + (5) ∧ (((2 : Nat) : Int) + (5)).toNat = 7 := by decide
theorem j_2_9 : 0 ≤ ((2 : Nat) : Int) + (9) ∧ (((2 : Nat) : Int) + (9)).toNat = 11 := by decide
theorem j_2_19 : 0 ≤ ((2 : Nat) : Int) + (19) ∧ (((2 : Nat) : Int) + (19)).toNat = 21 := by decide
theorem j_4_42 : 0 ≤ ((4 : Nat) : Int) + (42) ∧ (((4 : Nat) : Int) + (42)).toNat = 46 := by decide
theorem j_5_5 : 0 ≤ ((5 : Nat) : Int) + (5) ∧ (((5 : Nat) : Int) + (5)).toNat = 10 := by decide
theorem j_5_6 : 0 ≤ ((5 : Nat) : Int) + (6) ∧ (((5 : Nat) : Int) + (6)).toNat = 11 := by decide
theorem j_5_16 : 0 ≤ ((5 : Nat) : Int) + (16) ∧ (((5 : Nat) : Int) + (16)).toNat = 21 := by decide
theorem j_5_17 : 0 ≤ ((5 : Nat) : Int) + (17) ∧ (((5 : Nat) : Int) + (17)).toNat = 22 := by decide
theorem j_5_20 : 0 ≤ ((5 : Nat) : Int) + (20) ∧ (((5 : Nat) : Int) + (20)).toNat = 25 := by decide
theorem j_5_23 : 0 ≤ ((5 : Nat) : Int) + (23) ∧ (((5 : Nat) : Int) + (23)).toNat = 28 := by decide
theorem j_5_25 : 0 ≤ ((5 : Nat) : Int) + (25) ∧ (((5 : Nat) : Int) + (25)).toNat = 30 := by decide
theorem j_5_30 : 0 ≤ ((5 : Nat) : Int) + (30) ∧ (((5 : Nat) : Int) + (30)).toNat = 35 := by decide
theorem j_5_31 : 0 ≤ ((5 : Nat) : Int) + (31) ∧ (((5 : Nat) : Int) + (31)).toNat = 36 := by decide
theorem j_6_7 : 0 ≤ ((6 : Nat) : Int) + (7) ∧ (((6 : Nat) : Int) + (7)).toNat = 13 := by decide
theorem j_6_44 : 0 ≤ ((6 : Nat) : Int) + (44) ∧ (((6 : Nat) : Int) + (44)).toNat = 50 := by decide
theorem j_6_56 : 0 ≤ ((6 : Nat) : Int) + (56) ∧ (((6 : Nat) : Int) + (56)).toNat = 62 := by decide
theorem j_7_5 : 0 ≤ ((7 : Nat) : Int) + (5) ∧ (((7 : Nat) : Int) + (5)).toNat = 12 := by decide
theorem j_7_7 : 0 ≤ ((7 : Nat) : Int) + (7) ∧ (((7 : Nat) : Int) + (7)).toNat = 14 := by decide
theorem j_7_14 : 0 ≤ ((7 : Nat) : Int) + (14) ∧ (((7 : Nat) : Int) + (14)).toNat = 21 := by decide
theorem j_7_27 : 0 ≤ ((7 : Nat) : Int) + (27) ∧ (((7 : Nat) : Int) + (27)).toNat = 34 := by decide
theorem j_8_5 : 0 ≤ ((8 : Nat) : Int) + (5) ∧ (((8 : Nat) : Int) + (5)).toNat = 13 := by decide
theorem j_8_20 : 0 ≤ ((8 : Nat) : Int) + (20) ∧ (((8 : Nat) : Int) + (20)).toNat = 28 := by decide
theorem j_8_61 : 0 ≤ ((8 : Nat) : Int) + (61) ∧ (((8 : Nat) : Int) + (61)).toNat = 69 := by decide
theorem j_9_4 : 0 ≤ ((9 : Nat) : Int) + (4) ∧ (((9 : Nat) : Int) + (4)).toNat = 13 := by decide
theorem j_9_5 : 0 ≤ ((9 : Nat) : Int) + (5) ∧ (((9 : Nat) : Int) + (5)).toNat = 14 := by decide
theorem j_10_36 : 0 ≤ ((10 : Nat) : Int) + (36) ∧ (((10 : Nat) : Int) + (36)).toNat = 46 := by decide
theorem j_11_4 : 0 ≤ ((11 : Nat) : Int) + (4) ∧ (((11 : Nat) : Int) + (4)).toNat = 15 := by decide
theorem j_11_5 : 0 ≤ ((11 : Nat) : Int) + (5) ∧ (((11 : Nat) : Int) + (5)).toNat = 16 := by decide
theorem j_11_30 : 0 ≤ ((11 : Nat) : Int) + (30) ∧ (((11 : Nat) : Int) + (30)).toNat = 41 := by decide
theorem j_12_9 : 0 ≤ ((12 : Nat) : Int) + (9) ∧ (((12 : Nat) : Int) + (9)).toNat = 21 := by decide
theorem j_13_21 : 0 ≤ ((13 : Nat) : Int) + (21) ∧ (((13 : Nat) : Int) + (21)).toNat = 34 := by decide
theorem j_13_37 : 0 ≤ ((13 : Nat) : Int) + (37) ∧ (((13 : Nat) : Int) + (37)).toNat = 50 := by decide
theorem j_13_49 : 0 ≤ ((13 : Nat) : Int) + (49) ∧ (((13 : Nat) : Int) + (49)).toNat = 62 := by decide
theorem j_14_5 : 0 ≤ ((14 : Nat) : Int) + (5) ∧ (((14 : Nat) : Int) + (5)).toNat = 19 := by decide
theorem j_14_14 : 0 ≤ ((14 : Nat) : Int) + (14) ∧ (((14 : Nat) : Int) + (14)).toNat = 28 := by decide
theorem j_15_7 : 0 ≤ ((15 : Nat) : Int) + (7) ∧ (((15 : Nat) : Int) + (7)).toNat = 22 := by decide
theorem j_15_26 : 0 ≤ ((15 : Nat) : Int) + (26) ∧ (((15 : Nat) : Int) + (26)).toNat = 41 := by decide
theorem j_15_54 : 0 ≤ ((15 : Nat) : Int) + (54) ∧ (((15 : Nat) : Int) + (54)).toNat = 69 := by decide
theorem j_16_20 : 0 ≤ ((16 : Nat) : Int) + (20) ∧ (((16 : Nat) : Int) + (20)).toNat = 36 := by decide
theorem j_17_5 : 0 ≤ ((17 : Nat) : Int) + (5) ∧ (((17 : Nat) : Int) + (5)).toNat = 22 := by decide
theorem j_18_m16 : 0 ≤ ((18 : Nat) : Int) + (-16) ∧ (((18 : Nat) : Int) + (-16)).toNat = 2 := by decide
theorem j_18_5 : 0 ≤ ((18 : Nat) : Int) + (5) ∧ (((18 : Nat) : Int) + (5)).toNat = 23 := by decide
theorem j_18_7 : 0 ≤ ((18 : Nat) : Int) + (7) ∧ (((18 : Nat) : Int) + (7)).toNat = 25 := by decide
theorem j_19_4 : 0 ≤ ((19 : Nat) : Int) + (4) ∧ (((19 : Nat) : Int) + (4)).toNat = 23 := by decide
theorem j_19_5 : 0 ≤ ((19 : Nat) : Int) + (5) ∧ (((19 : Nat) : Int) + (5)).toNat = 24 := by decide
theorem j_19_7 : 0 ≤ ((19 : Nat) : Int) + (7) ∧ (((19 : Nat) : Int) + (7)).toNat = 26 := by decide
theorem j_19_44 : 0 ≤ ((19 : Nat) : Int) + (44) ∧ (((19 : Nat) : Int) + (44)).toNat = 63 := by decide
theorem j_21_6 : 0 ≤ ((21 : Nat) : Int) + (6) ∧ (((21 : Nat) : Int) + (6)).toNat = 27 := by decide
theorem j_22_m20 : 0 ≤ ((22 : Nat) : Int) + (-20) ∧ (((22 : Nat) : Int) + (-20)).toNat = 2 := by decide
theorem j_22_4 : 0 ≤ ((22 : Nat) : Int) + (4) ∧ (((22 : Nat) : Int) + (4)).toNat = 26 := by decide
theorem j_22_19 : 0 ≤ ((22 : Nat) : Int) + (19) ∧ (((22 : Nat) : Int) + (19)).toNat = 41 := by decide
theorem j_23_4 : 0 ≤ ((23 : Nat) : Int) + (4) ∧ (((23 : Nat) : Int) + (4)).toNat = 27 := by decide
theorem j_23_5 : 0 ≤ ((23 : Nat) : Int) + (5) ∧ (((23 : Nat) : Int) + (5)).toNat = 28 := by decide
theorem j_23_9 : 0 ≤ ((23 : Nat) : Int) + (9) ∧ (((23 : Nat) : Int) + (9)).toNat = 32 := by decide
theorem j_23_13 : 0 ≤ ((23 : Nat) : Int) + (13) ∧ (((23 : Nat) : Int) + (13)).toNat = 36 := by decide
theorem j_24_20 : 0 ≤ ((24 : Nat) : Int) + (20) ∧ (((24 : Nat) : Int) + (20)).toNat = 44 := by decide
theorem j_24_32 : 0 ≤ ((24 : Nat) : Int) + (32) ∧ (((24 : Nat) : Int) + (32)).toNat = 56 := by decide
theorem j_25_m23 : 0 ≤ ((25 : Nat) : Int) + (-23) ∧ (((25 : Nat) : Int) + (-23)).toNat = 2 := by decide
theorem j_26_6 : 0 ≤ ((26 : Nat) : Int) + (6) ∧ (((26 : Nat) : Int) + (6)).toNat = 32 := by decide
theorem j_26_37 : 0 ≤ ((26 : Nat) : Int) + (37) ∧ (((26 : Nat) : Int) + (37)).toNat = 63 := by decide
theorem j_27_m25 : 0 ≤ ((27 : Nat) : Int) + (-25) ∧ (((27 : Nat) : Int) + (-25)).toNat = 2 := by decide
theorem j_27_5 : 0 ≤ ((27 : Nat) : Int) + (5) ∧ (((27 : Nat) : Int) + (5)).toNat = 32 := by decide
theorem j_28_12 : 0 ≤ ((28 : Nat) : Int) + (12) ∧ (((28 : Nat) : Int) + (12)).toNat = 40 := by decide
theorem j_29_26 : 0 ≤ ((29 : Nat) : Int) + (26) ∧ (((29 : Nat) : Int) + (26)).toNat = 55 := by decide
theorem j_31_m29 : 0 ≤ ((31 : Nat) : Int) + (-29) ∧ (((31 : Nat) : Int) + (-29)).toNat = 2 := by decide
theorem j_32_m30 : 0 ≤ ((32 : Nat) : Int) + (-30) ∧ (((32 : Nat) : Int) + (-30)).toNat = 2 := by decide
theorem j_32_5 : 0 ≤ ((32 : Nat) : Int) + (5) ∧ (((32 : Nat) : Int) + (5)).toNat = 37 := by decide
theorem j_33_11 : 0 ≤ ((33 : Nat) : Int) + (11) ∧ (((33 : Nat) : Int) + (11)).toNat = 44 := by decide
theorem j_33_23 : 0 ≤ ((33 : Nat) : Int) + (23) ∧ (((33 : Nat) : Int) + (23)).toNat = 56 := by decide
theorem j_35_28 : 0 ≤ ((35 : Nat) : Int) + (28) ∧ (((35 : Nat) : Int) + (28)).toNat = 63 := by decide
theorem j_36_16 : 0 ≤ ((36 : Nat) : Int) + (16) ∧ (((36 : Nat) : Int) + (16)).toNat = 52 := by decide
theorem j_37_20 : 0 ≤ ((37 : Nat) : Int) + (20) ∧ (((37 : Nat) : Int) + (20)).toNat = 57 := by decide
theorem j_39_5 : 0 ≤ ((39 : Nat) : Int) + (5) ∧ (((39 : Nat) : Int) + (5)).toNat = 44 := by decide
theorem j_39_8 : 0 ≤ ((39 : Nat) : Int) + (8) ∧ (((39 : Nat) : Int) + (8)).toNat = 47 := by decide
theorem j_40_6 : 0 ≤ ((40 : Nat) : Int) + (6) ∧ (((40 : Nat) : Int) + (6)).toNat = 46 := by decide
theorem j_41_5 : 0 ≤ ((41 : Nat) : Int) + (5) ∧ (((41 : Nat) : Int) + (5)).toNat = 46 := by decide
theorem j_41_12 : 0 ≤ ((41 : Nat) : Int) + (12) ∧ (((41 : Nat) : Int) + (12)).toNat = 53 := by decide
theorem j_43_m41 : 0 ≤ ((43 : Nat) : Int) + (-41) ∧ (((43 : Nat) : Int) + (-41)).toNat = 2 := by decide
theorem j_46_7 : 0 ≤ ((46 : Nat) : Int) + (7) ∧ (((46 : Nat) : Int) + (7)).toNat = 53 := by decide
theorem j_46_11 : 0 ≤ ((46 : Nat) : Int) + (11) ∧ (((46 : Nat) : Int) + (11)).toNat = 57 := by decide
theorem j_47_m44 : 0 ≤ ((47 : Nat) : Int) + (-44) ∧ (((47 : Nat) : Int) + (-44)).toNat = 3 := by decide
theorem j_49_m17 : 0 ≤ ((49 : Nat) : Int) + (-17) ∧ (((49 : Nat) : Int) + (-17)).toNat = 32 := by decide
theorem j_50_4 : 0 ≤ ((50 : Nat) : Int) + (4) ∧ (((50 : Nat) : Int) + (4)).toNat = 54 := by decide
theorem j_50_5 : 0 ≤ ((50 : Nat) : Int) + (5) ∧ (((50 : Nat) : Int) + (5)).toNat = 55 := by decide
theorem j_59_m56 : 0 ≤ ((59 : Nat) : Int) + (-56) ∧ (((59 : Nat) : Int) + (-56)).toNat = 3 := by decide
theorem j_59_7 : 0 ≤ ((59 : Nat) : Int) + (7) ∧ (((59 : Nat) : Int) + (7)).toNat = 66 := by decide
theorem j_60_m44 : 0 ≤ ((60 : Nat) : Int) + (-44) ∧ (((60 : Nat) : Int) + (-44)).toNat = 16 := by decide
theorem j_61_5 : 0 ≤ ((61 : Nat) : Int) + (5) ∧ (((61 : Nat) : Int) + (5)).toNat = 66 := by decide
theorem j_63_4 : 0 ≤ ((63 : Nat) : Int) + (4) ∧ (((63 : Nat) : Int) + (4)).toNat = 67 := by decide
theorem j_66_m61 : 0 ≤ ((66 : Nat) : Int) + (-61) ∧ (((66 : Nat) : Int) + (-61)).toNat = 5 := by decide
theorem j_81_7 : 0 ≤ ((81 : Nat) : Int) + (7) ∧ (((81 : Nat) : Int) + (7)).toNat = 88 := by decide
theorem j_85_5 : 0 ≤ ((85 : Nat) : Int) + (5) ∧ (((85 : Nat) : Int) + (5)).toNat = 90 := by decide
theorem j_86_26 : 0 ≤ ((86 : Nat) : Int) + (26) ∧ (((86 : Nat) : Int) + (26)).toNat = 112 := by decide
theorem j_91_21 : 0 ≤ ((91 : Nat) : Int) + (21) ∧ (((91 : Nat) : Int) + (21)).toNat = 112 := by decide
theorem j_99_60 : 0 ≤ ((99 : Nat) : Int) + (60) ∧ (((99 : Nat) : Int) + (60)).toNat = 159 := by decide
theorem j_100_12 : 0 ≤ ((100 : Nat) : Int) + (12) ∧ (((100 : Nat) : Int) + (12)).toNat = 112 := by decide
theorem j_124_7 : 0 ≤ ((124 : Nat) : Int) + (7) ∧ (((124 : Nat) : Int) + (7)).toNat = 131 := by decide
theorem j_128_4 : 0 ≤ ((128 : Nat) : Int) + (4) ∧ (((128 : Nat) : Int) + (4)).toNat = 132 := by decide
theorem j_136_14 : 0 ≤ ((136 : Nat) : Int) + (14) ∧ (((136 : Nat) : Int) + (14)).toNat = 150 := by decide
theorem j_143_7 : 0 ≤ ((143 : Nat) : Int) + (7) ∧ (((143 : Nat) : Int) + (7)).toNat = 150 := by decide
theorem j_147_4 : 0 ≤ ((147 : Nat) : Int) + (4) ∧ (((147 : Nat) : Int) + (4)).toNat = 151 := by decide
theorem j_156_m61 : 0 ≤ ((156 : Nat) : Int) + (-61) ∧ (((156 : Nat) : Int) + (-61)).toNat = 95 := by decide
theorem j_162_8 : 0 ≤ ((162 : Nat) : Int) + (8) ∧ (((162 : Nat) : Int) + (8)).toNat = 170 := by decide
theorem j_167_4 : 0 ≤ ((167 : Nat) : Int) + (4) ∧ (((167 : Nat) : Int) + (4)).toNat = 171 := by decide
theorem j_192_7 : 0 ≤ ((192 : Nat) : Int) + (7) ∧ (((192 : Nat) : Int) + (7)).toNat = 199 := by decide
theorem j_196_8 : 0 ≤ ((196 : Nat) : Int) + (8) ∧ (((196 : Nat) : Int) + (8)).toNat = 204 := by decide
theorem j_208_20 : 0 ≤ ((208 : Nat) : Int) + (20) ∧ (((208 : Nat) : Int) + (20)).toNat = 228 := by decide
theorem j_213_15 : 0 ≤ ((213 : Nat) : Int) + (15) ∧ (((213 : Nat) : Int) + (15)).toNat = 228 := by decide
theorem j_221_7 : 0 ≤ ((221 : Nat) : Int) + (7) ∧ (((221 : Nat) : Int) + (7)).toNat = 228 := by decide
theorem j_225_4 : 0 ≤ ((225 : Nat) : Int) + (4) ∧ (((225 : Nat) : Int) + (4)).toNat = 229 := by decide
theorem j_250_22 : 0 ≤ ((250 : Nat) : Int) + (22) ∧ (((250 : Nat) : Int) + (22)).toNat = 272 := by decide
theorem j_256_16 : 0 ≤ ((256 : Nat) : Int) + (16) ∧ (((256 : Nat) : Int) + (16)).toNat = 272 := by decide
theorem j_265_7 : 0 ≤ ((265 : Nat) : Int) + (7) ∧ (((265 : Nat) : Int) + (7)).toNat = 272 := by decide
theorem j_269_4 : 0 ≤ ((269 : Nat) : Int) + (4) ∧ (((269 : Nat) : Int) + (4)).toNat = 273 := by decide
theorem j_294_22 : 0 ≤ ((294 : Nat) : Int) + (22) ∧ (((294 : Nat) : Int) + (22)).toNat = 316 := by decide
theorem j_300_16 : 0 ≤ ((300 : Nat) : Int) + (16) ∧ (((300 : Nat) : Int) + (16)).toNat = 316 := by decide
theorem j_309_7 : 0 ≤ ((309 : Nat) : Int) + (7) ∧ (((309 : Nat) : Int) + (7)).toNat = 316 := by decide
theorem j_313_4 : 0 ≤ ((313 : Nat) : Int) + (4) ∧ (((313 : Nat) : Int) + (4)).toNat = 317 := by decide
theorem j_329_13 : 0 ≤ ((329 : Nat) : Int) + (13) ∧ (((329 : Nat) : Int) + (13)).toNat = 342 := by decide
theorem j_335_7 : 0 ≤ ((335 : Nat) : Int) + (7) ∧ (((335 : Nat) : Int) + (7)).toNat = 342 := by decide
theorem j_339_4 : 0 ≤ ((339 : Nat) : Int) + (4) ∧ (((339 : Nat) : Int) + (4)).toNat = 343 := by decide
theorem j_368_32 : 0 ≤ ((368 : Nat) : Int) + (32) ∧ (((368 : Nat) : Int) + (32)).toNat = 400 := by decide
theorem j_373_27 : 0 ≤ ((373 : Nat) : Int) + (27) ∧ (((373 : Nat) : Int) + (27)).toNat = 400 := by decide
theorem j_385_15 : 0 ≤ ((385 : Nat) : Int) + (15) ∧ (((385 : Nat) : Int) + (15)).toNat = 400 := by decide
theorem j_393_7 : 0 ≤ ((393 : Nat) : Int) + (7) ∧ (((393 : Nat) : Int) + (7)).toNat = 400 := by decide
theorem j_397_4 : 0 ≤ ((397 : Nat) : Int) + (4) ∧ (((397 : Nat) : Int) + (4)).toNat = 401 := by decide
theorem j_440_43 : 0 ≤ ((440 : Nat) : Int) + (43) ∧ (((440 : Nat) : Int) + (43)).toNat = 483 := by decide
theorem j_446_37 : 0 ≤ ((446 : Nat) : Int) + (37) ∧ (((446 : Nat) : Int) + (37)).toNat = 483 := by decide
theorem j_452_31 : 0 ≤ ((452 : Nat) : Int) + (31) ∧ (((452 : Nat) : Int) + (31)).toNat = 483 := by decide
theorem j_464_19 : 0 ≤ ((464 : Nat) : Int) + (19) ∧ (((464 : Nat) : Int) + (19)).toNat = 483 := by decide
theorem j_471_12 : 0 ≤ ((471 : Nat) : Int) + (12) ∧ (((471 : Nat) : Int) + (12)).toNat = 483 := by decide
theorem j_476_7 : 0 ≤ ((476 : Nat) : Int) + (7) ∧ (((476 : Nat) : Int) + (7)).toNat = 483 := by decide
theorem j_480_4 : 0 ≤ ((480 : Nat) : Int) + (4) ∧ (((480 : Nat) : Int) + (4)).toNat = 484 := by decide
theorem lk_0_38 : LinkP PP "ShadowRedzoneY" 38 m0 := ⟨List.mem_of_getElem? (i := 29) rfl, List.mem_of_getElem? (i := 30) rfl, List.mem_of_getElem? (i := 31) rfl, List.mem_of_getElem? (i := 32) rfl, rfl, rfl⟩
theorem lk_0_55 : LinkP PP "ShadowRedzoneY" 55 m1 := ⟨List.mem_of_getElem? (i := 41) rfl, List.mem_of_getElem? (i := 42) rfl, List.mem_of_getElem? (i := 43) rfl, List.mem_of_getElem? (i := 44) rfl, rfl, rfl⟩
theorem lk_0_58 : LinkP PP "ShadowRedzoneY" 58 m2 := ⟨List.mem_of_getElem? (i := 45) rfl, List.mem_of_getElem? (i := 46) rfl, List.mem_of_getElem? (i := 47) rfl, List.mem_of_getElem? (i := 48) rfl, rfl, rfl⟩
theorem lk_0_61 : LinkP PP "ShadowRedzoneY" 61 m3 := ⟨List.mem_of_getElem? (i := 49) rfl, List.mem_of_getElem? (i := 50) rfl, List.mem_of_getElem? (i := 51) rfl, List.mem_of_getElem? (i := 52) rfl, rfl, rfl⟩
theorem lk_0_64 : LinkP PP "ShadowRedzoneY" 64 m4 := ⟨List.mem_of_getElem? (i := 59) rfl, List.mem_of_getElem? (i := 60) rfl, List.mem_of_getElem? (i := 61) rfl, List.mem_of_getElem? (i := 62) rfl, rfl, rfl⟩
theorem lk_0_80 : LinkP PP "ShadowRedzoneY" 80 m7 := ⟨List.mem_of_getElem? (i := 83) rfl, List.mem_of_getElem? (i := 84) rfl, List.mem_of_getElem? (i := 85) rfl, List.mem_of_getElem? (i := 86) rfl, rfl, rfl⟩
theorem lk_0_84 : LinkP PP "ShadowRedzoneY" 84 m9 := ⟨List.mem_of_getElem? (i := 91) rfl, List.mem_of_getElem? (i := 92) rfl, List.mem_of_getElem? (i := 93) rfl, List.mem_of_getElem? (i := 94) rfl, rfl, rfl⟩
theorem lk_0_87 : LinkP PP "ShadowRedzoneY" 87 m10 := ⟨List.mem_of_getElem? (i := 99) rfl, List.mem_of_getElem? (i := 100) rfl, List.mem_of_getElem? (i := 101) rfl, List.mem_of_getElem? (i := 102) rfl, rfl, rfl⟩
theorem lk_0_91 : LinkP PP "ShadowRedzoneY" 91 m11 := ⟨List.mem_of_getElem? (i := 103) rfl, List.mem_of_getElem? (i := 104) rfl, List.mem_of_getElem? (i := 105) rfl, List.mem_of_getElem? (i := 106) rfl, rfl, rfl⟩
theorem lk_0_95 : LinkP PP "ShadowRedzoneY" 95 m20 := ⟨List.mem_of_getElem? (i := 107) rfl, List.mem_of_getElem? (i := 108) rfl, List.mem_of_getElem? (i := 109) rfl, List.mem_of_getElem? (i := 110) rfl, rfl, rfl⟩
theorem lk_0_98 : LinkP PP "ShadowRedzoneY" 98 m34 := ⟨List.mem_of_getElem? (i := 198) rfl, List.mem_of_getElem? (i := 199) rfl, List.mem_of_getElem? (i := 200) rfl, List.mem_of_getElem? (i := 201) rfl, rfl, rfl⟩
theorem lk_0_101 : LinkP PP "ShadowRedzoneY" 101 m37 := ⟨List.mem_of_getElem? (i := 211) rfl, List.mem_of_getElem? (i := 212) rfl, List.mem_of_getElem? (i := 213) rfl, List.mem_of_getElem? (i := 214) rfl, rfl, rfl⟩
theorem lk_0_105 : LinkP PP "ShadowRedzoneY" 105 m35 := ⟨List.mem_of_getElem? (i := 202) rfl, List.mem_of_getElem? (i := 203) rfl, List.mem_of_getElem? (i := 204) rfl, List.mem_of_getElem? (i := 205) rfl, rfl, rfl⟩
theorem lk_0_108 : LinkP PP "ShadowRedzoneY" 108 m41 := ⟨List.mem_of_getElem? (i := 215) rfl, List.mem_of_getElem? (i := 216) rfl, List.mem_of_getElem? (i := 217) rfl, List.mem_of_getElem? (i := 218) rfl, rfl, rfl⟩
theorem lk_0_112 : LinkP PP "ShadowRedzoneY" 112 m42 := ⟨List.mem_of_getElem? (i := 231) rfl, List.mem_of_getElem? (i := 232) rfl, List.mem_of_getElem? (i := 233) rfl, List.mem_of_getElem? (i := 234) rfl, rfl, rfl⟩
theorem lk_0_115 : LinkP PP "ShadowRedzoneY" 115 m23 := ⟨List.mem_of_getElem? (i := 148) rfl, List.mem_of_getElem? (i := 149) rfl, List.mem_of_getElem? (i := 150) rfl, List.mem_of_getElem? (i := 151) rfl, rfl, rfl⟩
theorem lk_0_118 : LinkP PP "ShadowRedzoneY" 118 m27 := ⟨List.mem_of_getElem? (i := 152) rfl, List.mem_of_getElem? (i := 153) rfl, List.mem_of_getElem? (i := 154) rfl, List.mem_of_getElem? (i := 155) rfl, rfl, rfl⟩
theorem lk_0_122 : LinkP PP "ShadowRedzoneY" 122 m30 := ⟨List.mem_of_getElem? (i := 178) rfl, List.mem_of_getElem? (i := 179) rfl, List.mem_of_getElem? (i := 180) rfl, List.mem_of_getElem? (i := 181) rfl, rfl, rfl⟩
theorem lk_0_126 : LinkP PP "ShadowRedzoneY" 126 m28 := ⟨List.mem_of_getElem? (i := 164) rfl, List.mem_of_getElem? (i := 165) rfl, List.mem_of_getElem? (i := 166) rfl, List.mem_of_getElem? (i := 167) rfl, rfl, rfl⟩
theorem lk_0_139 : LinkP PP "ShadowRedzoneY" 139 m13 := ⟨List.mem_of_getElem? (i := 123) rfl, List.mem_of_getElem? (i := 124) rfl, List.mem_of_getElem? (i := 125) rfl, List.mem_of_getElem? (i := 126) rfl, rfl, rfl⟩
theorem lk_0_142 : LinkP PP "ShadowRedzoneY" 142 m18 := ⟨List.mem_of_getElem? (i := 139) rfl, List.mem_of_getElem? (i := 140) rfl, List.mem_of_getElem? (i := 141) rfl, List.mem_of_getElem? (i := 142) rfl, rfl, rfl⟩
theorem lk_0_148 : LinkP PP "ShadowRedzoneY" 148 m6 := ⟨List.mem_of_getElem? (i := 87) rfl, List.mem_of_getElem? (i := 88) rfl, List.mem_of_getElem? (i := 89) rfl, List.mem_of_getElem? (i := 90) rfl, rfl, rfl⟩
theorem lk_0_151 : LinkP PP "ShadowRedzoneY" 151 m14 := ⟨List.mem_of_getElem? (i := 119) rfl, List.mem_of_getElem? (i := 120) rfl, List.mem_of_getElem? (i := 121) rfl, List.mem_of_getElem? (i := 122) rfl, rfl, rfl⟩
theorem lk_0_154 : LinkP PP "ShadowRedzoneY" 154 m15 := ⟨List.mem_of_getElem? (i := 127) rfl, List.mem_of_getElem? (i := 128) rfl, List.mem_of_getElem? (i := 129) rfl, List.mem_of_getElem? (i := 130) rfl, rfl, rfl⟩
theorem lk_0_157 : LinkP PP "ShadowRedzoneY" 157 m16 := ⟨List.mem_of_getElem? (i := 131) rfl, List.mem_of_getElem? (i := 132) rfl, List.mem_of_getElem? (i := 133) rfl, List.mem_of_getElem? (i := 134) rfl, rfl, rfl⟩
theorem lk_0_161 : LinkP PP "ShadowRedzoneY" 161 m12 := ⟨List.mem_of_getElem? (i := 111) rfl, List.mem_of_getElem? (i := 112) rfl, List.mem_of_getElem? (i := 113) rfl, List.mem_of_getElem? (i := 114) rfl, rfl, rfl⟩
theorem lk_0_164 : LinkP PP "ShadowRedzoneY" 164 m17 := ⟨List.mem_of_getElem? (i := 115) rfl, List.mem_of_getElem? (i := 116) rfl, List.mem_of_getElem? (i := 117) rfl, List.mem_of_getElem? (i := 118) rfl, rfl, rfl⟩
theorem lk_0_167 : LinkP PP "ShadowRedzoneY" 167 m19 := ⟨List.mem_of_getElem? (i := 135) rfl, List.mem_of_getElem? (i := 136) rfl, List.mem_of_getElem? (i := 137) rfl, List.mem_of_getElem? (i := 138) rfl, rfl, rfl⟩
theorem lk_0_170 : LinkP PP "ShadowRedzoneY" 170 m38 := ⟨List.mem_of_getElem? (i := 219) rfl, List.mem_of_getElem? (i := 220) rfl, List.mem_of_getElem? (i := 221) rfl, List.mem_of_getElem? (i := 222) rfl, rfl, rfl⟩
theorem lk_0_173 : LinkP PP "ShadowRedzoneY" 173 m40 := ⟨List.mem_of_getElem? (i := 223) rfl, List.mem_of_getElem? (i := 224) rfl, List.mem_of_getElem? (i := 225) rfl, List.mem_of_getElem? (i := 226) rfl, rfl, rfl⟩
theorem lk_0_182 : LinkP PP "ShadowRedzoneY" 182 m39 := ⟨List.mem_of_getElem? (i := 227) rfl, List.mem_of_getElem? (i := 228) rfl, List.mem_of_getElem? (i := 229) rfl, List.mem_of_getElem? (i := 230) rfl, rfl, rfl⟩
theorem lk_0_188 : LinkP PP "ShadowRedzoneY" 188 m8 := ⟨List.mem_of_getElem? (i := 95) rfl, List.mem_of_getElem? (i := 96) rfl, List.mem_of_getElem? (i := 97) rfl, List.mem_of_getElem? (i := 98) rfl, rfl, rfl⟩
theorem lk_0_200 : LinkP PP "ShadowRedzoneY" 200 m25 := ⟨List.mem_of_getElem? (i := 156) rfl, List.mem_of_getElem? (i := 157) rfl, List.mem_of_getElem? (i := 158) rfl, List.mem_of_getElem? (i := 159) rfl, rfl, rfl⟩
theorem lk_0_203 : LinkP PP "ShadowRedzoneY" 203 m26 := ⟨List.mem_of_getElem? (i := 169) rfl, List.mem_of_getElem? (i := 170) rfl, List.mem_of_getElem? (i := 171) rfl, List.mem_of_getElem? (i := 172) rfl, rfl, rfl⟩
theorem lk_0_206 : LinkP PP "ShadowRedzoneY" 206 m24 := ⟨List.mem_of_getElem? (i := 160) rfl, List.mem_of_getElem? (i := 161) rfl, List.mem_of_getElem? (i := 162) rfl, List.mem_of_getElem? (i := 163) rfl, rfl, rfl⟩
theorem lk_1_9 : LinkI PP "ShadowRedzoneYL3" 9 m5 := ⟨List.mem_of_getElem? (i := 3) rfl, List.mem_of_getElem? (i := 4) rfl, List.mem_of_getElem? (i := 5) rfl, rfl, rfl, rfl, rfl⟩
theorem lk_1_12 : LinkV PP "ShadowRedzoneYL3" 12 m21 := ⟨List.mem_of_getElem? (i := 73) rfl, List.mem_of_getElem? (i := 74) rfl, List.mem_of_getElem? (i := 76) rfl, List.mem_of_getElem? (i := 75) rfl, List.mem_of_getElem? (i := 77) rfl, rfl, rfl⟩
theorem lk_1_16 : LinkV PP "ShadowRedzoneYL3" 16 m22 := ⟨List.mem_of_getElem? (i := 78) rfl, List.mem_of_getElem? (i := 79) rfl, List.mem_of_getElem? (i := 81) rfl, List.mem_of_getElem? (i := 80) rfl, List.mem_of_getElem? (i := 82) rfl, rfl, rfl⟩
theorem lk_1_20 : LinkV PP "ShadowRedzoneYL3" 20 m29 := ⟨List.mem_of_getElem? (i := 143) rfl, List.mem_of_getElem? (i := 144) rfl, List.mem_of_getElem? (i := 146) rfl, List.mem_of_getElem? (i := 145) rfl, List.mem_of_getElem? (i := 147) rfl, rfl, rfl⟩
theorem lk_1_24 : LinkV PP "ShadowRedzoneYL3" 24 m31 := ⟨List.mem_of_getElem? (i := 173) rfl, List.mem_of_getElem? (i := 174) rfl, List.mem_of_getElem? (i := 176) rfl, List.mem_of_getElem? (i := 175) rfl, List.mem_of_getElem? (i := 177) rfl, rfl, rfl⟩
theorem lk_1_28 : LinkV PP "ShadowRedzoneYL3" 28 m32 := ⟨List.mem_of_getElem? (i := 182) rfl, List.mem_of_getElem? (i := 183) rfl, List.mem_of_getElem? (i := 185) rfl, List.mem_of_getElem? (i := 184) rfl, List.mem_of_getElem? (i := 186) rfl, rfl, rfl⟩
theorem lk_1_34 : LinkV PP "ShadowRedzoneYL3" 34 m33 := ⟨List.mem_of_getElem? (i := 188) rfl, List.mem_of_getElem? (i := 189) rfl, List.mem_of_getElem? (i := 191) rfl, List.mem_of_getElem? (i := 190) rfl, List.mem_of_getElem? (i := 192) rfl, rfl, rfl⟩
theorem lk_1_37 : LinkV PP "ShadowRedzoneYL3" 37 m36 := ⟨List.mem_of_getElem? (i := 193) rfl, List.mem_of_getElem? (i := 194) rfl, List.mem_of_getElem? (i := 196) rfl, List.mem_of_getElem? (i := 195) rfl, List.mem_of_getElem? (i := 197) rfl, rfl, rfl⟩
theorem lk_1_40 : LinkV PP "ShadowRedzoneYL3" 40 m43 := ⟨List.mem_of_getElem? (i := 206) rfl, List.mem_of_getElem? (i := 207) rfl, List.mem_of_getElem? (i := 209) rfl, List.mem_of_getElem? (i := 208) rfl, List.mem_of_getElem? (i := 210) rfl, rfl, rfl⟩
theorem lk_1_43 : LinkV PP "ShadowRedzoneYL3" 43 m44 := ⟨List.mem_of_getElem? (i := 235) rfl, List.mem_of_getElem? (i := 236) rfl, List.mem_of_getElem? (i := 238) rfl, List.mem_of_getElem? (i := 237) rfl, List.mem_of_getElem? (i := 239) rfl, rfl, rfl⟩
theorem lk_1_46 : LinkV PP "ShadowRedzoneYL3" 46 m45 := ⟨List.mem_of_getElem? (i := 240) rfl, List.mem_of_getElem? (i := 241) rfl, List.mem_of_getElem? (i := 243) rfl, List.mem_of_getElem? (i := 242) rfl, List.mem_of_getElem? (i := 244) rfl, rfl, rfl⟩
theorem lk_1_49 : LinkV PP "ShadowRedzoneYL3" 49 m46 := ⟨List.mem_of_getElem? (i := 245) rfl, List.mem_of_getElem? (i := 246) rfl, List.mem_of_getElem? (i := 248) rfl, List.mem_of_getElem? (i := 247) rfl, List.mem_of_getElem? (i := 249) rfl, rfl, rfl⟩
theorem facts1 {Z : State} {a0 : Array Value} (hw : ∀ d ∈ tables_1, d.before a0 Z = true) : Facts Z a0 ci1 := by
  refine ⟨hw _ (List.mem_of_getElem? (i := 1) rfl), hw _ (List.mem_of_getElem? (i := 2) rfl), ?_, ?_, by decide, ?_, by decide⟩
  · intro f x hx
    match f, hx with
    | 0, hx => cases hx; exact ⟨Or.inl (hw _ (List.mem_of_getElem? (i := 34) rfl)), by decide⟩
    | 1, hx => cases hx; exact ⟨Or.inl (hw _ (List.mem_of_getElem? (i := 36) rfl)), by decide⟩
    | 2, hx => cases hx; exact ⟨Or.inl (hw _ (List.mem_of_getElem? (i := 38) rfl)), by decide⟩
    | 3, hx => cases hx; exact ⟨Or.inl (hw _ (List.mem_of_getElem? (i := 40) rfl)), by decide⟩
    | 4, hx => cases hx; exact ⟨Or.inl (hw _ (List.mem_of_getElem? (i := 54) rfl)), by decide⟩
    | 5, hx => cases hx; exact ⟨Or.inl (hw _ (List.mem_of_getElem? (i := 56) rfl)), by decide⟩
    | 6, hx => cases hx; exact ⟨Or.inl (hw _ (List.mem_of_getElem? (i := 58) rfl)), by decide⟩
    | 7, hx => cases hx; exact ⟨Or.inl (hw _ (List.mem_of_getElem? (i := 64) rfl)), by decide⟩
    | 8, hx => cases hx; exact ⟨Or.inl (hw _ (List.mem_of_getElem? (i := 66) rfl)), by decide⟩
    | 9, hx => cases hx; exact ⟨Or.inl (hw _ (List.mem_of_getElem? (i := 68) rfl)), by decide⟩
    | 10, hx => cases hx; exact ⟨Or.inl (hw _ (List.mem_of_getElem? (i := 70) rfl)), by decide⟩
    | 11, hx => cases hx; exact ⟨Or.inl (hw _ (List.mem_of_getElem? (i := 72) rfl)), by decide⟩
    | n + 12, hx => simp [cS, ci1] at hx
  · intro q x hx
    match q, hx with
    | 0, hx => cases hx; exact ⟨Or.inr (hw _ (List.mem_of_getElem? (i := 11) rfl)), by decide⟩
    | 1, hx => cases hx; exact ⟨Or.inr (hw _ (List.mem_of_getElem? (i := 14) rfl)), by decide⟩
    | 2, hx => cases hx; exact ⟨Or.inr (hw _ (List.mem_of_getElem? (i := 16) rfl)), by decide⟩
    | 3, hx => cases hx; exact ⟨Or.inr (hw _ (List.mem_of_getElem? (i := 18) rfl)), by decide⟩
    | 4, hx => cases hx; exact ⟨Or.inr (hw _ (List.mem_of_getElem? (i := 20) rfl)), by decide⟩
    | 5, hx => cases hx; exact ⟨Or.inr (hw _ (List.mem_of_getElem? (i := 22) rfl)), by decide⟩
    | 6, hx => cases hx; exact ⟨Or.inr (hw _ (List.mem_of_getElem? (i := 24) rfl)), by decide⟩
    | 7, hx => cases hx; exact ⟨Or.inr (hw _ (List.mem_of_getElem? (i := 26) rfl)), by decide⟩
    | 8, hx => cases hx; exact ⟨Or.inr (hw _ (List.mem_of_getElem? (i := 28) rfl)), by decide⟩
    | n + 9, hx => simp [cA, ci1] at hx
  · intro f x hx
    match f, hx with
    | 0, hx => cases hx; rfl
    | 1, hx => cases hx; rfl
    | 2, hx => cases hx; rfl
    | 3, hx => cases hx; rfl
    | 4, hx => cases hx; rfl
    | 5, hx => cases hx; rfl
    | 6, hx => cases hx; rfl
    | 7, hx => cases hx; rfl
    | 8, hx => cases hx; rfl
    | 9, hx => cases hx; rfl
    | 10, hx => cases hx; rfl
    | 11, hx => cases hx; rfl
    | n + 12, hx => simp [cS, ci1] at hx
def k_clamp  (v1 : Int32) (v2 : Int32) (v3 : Int32)  : Int32 :=
  if v1 < v2 then
    v2
  else
    if v3 < v1 then
      v3
    else
      v1
def k_resetArena_32  : Nat → Int32 → S → Option S
  | 0, _, _ => none
  | n + 1, v1, s =>
    if v1 < (256 : Int32) then
      (Jvm.AM.st (gA s 0) v1 (nar .byte (0 : Int32))).bind fun a45 =>
      k_resetArena_32 n (v1 + (1 : Int32)) (sA s 0 a45)
    else
      some s
def k_resetArena_30   (s : S) : Option S :=
  k_resetArena_32 BIG (0 : Int32) s
def k_resetArena_2  : Nat → Int32 → S → Option S
  | 0, _, _ => none
  | n + 1, v1, s =>
    if v1 < (32 : Int32) then
      (Jvm.AM.st (gA s 1) v1 (254 : Int32)).bind fun a16 =>
      (Jvm.AM.st (gA s 2) v1 (-1 : Int32)).bind fun a23 =>
      k_resetArena_2 n (v1 + (1 : Int32)) (sA (sA s 1 a16) 2 a23)
    else
      k_resetArena_30 s
def k_resetArena   (s : S) : Option S :=
  k_resetArena_2 BIG (0 : Int32) s
def k_resetChunks_2  : Nat → Int32 → S → Option S
  | 0, _, _ => none
  | n + 1, v1, s =>
    if v1 < (32 : Int32) then
      (Jvm.AM.st (gA s 5) v1 (nar .byte (0 : Int32))).bind fun a14 =>
      (Jvm.AM.st (gA s 3) v1 (0 : Int32)).bind fun a21 =>
      (Jvm.AM.st (gA s 4) v1 (0 : Int32)).bind fun a28 =>
      k_resetChunks_2 n (v1 + (1 : Int32)) (sA (sA (sA s 5 a14) 3 a21) 4 a28)
    else
      some s
def k_resetChunks   (s : S) : Option S :=
  k_resetChunks_2 BIG (0 : Int32) s
def k_resetQuarantine_21   (s : S) : Option S :=
  some (sI (sI (sI s 4 (0 : Int32)) 5 (0 : Int32)) 6 (0 : Int32))
def k_resetQuarantine_2  : Nat → Int32 → S → Option S
  | 0, _, _ => none
  | n + 1, v1, s =>
    if v1 < (32 : Int32) then
      (Jvm.AM.st (gA s 6) v1 (-1 : Int32)).bind fun a14 =>
      k_resetQuarantine_2 n (v1 + (1 : Int32)) (sA s 6 a14)
    else
      k_resetQuarantine_21 s
def k_resetQuarantine   (s : S) : Option S :=
  k_resetQuarantine_2 BIG (0 : Int32) s
def k_resetRuns_28   (s : S) : Option S :=
  (Jvm.AM.st (gA s 7) (0 : Int32) (0 : Int32)).bind fun a34 =>
  (Jvm.AM.st (gA s 8) (0 : Int32) (gI s 0)).bind fun a44 =>
  some (sI (sA (sA s 7 a34) 8 a44) 7 (1 : Int32))
def k_resetRuns_2  : Nat → Int32 → S → Option S
  | 0, _, _ => none
  | n + 1, v1, s =>
    if v1 < (32 : Int32) then
      (Jvm.AM.st (gA s 7) v1 (0 : Int32)).bind fun a14 =>
      (Jvm.AM.st (gA s 8) v1 (0 : Int32)).bind fun a21 =>
      k_resetRuns_2 n (v1 + (1 : Int32)) (sA (sA s 7 a14) 8 a21)
    else
      k_resetRuns_28 s
def k_resetRuns   (s : S) : Option S :=
  k_resetRuns_2 BIG (0 : Int32) s
def k_init  (v1 : Int32) (v2 : Int32) (v3 : Int32)  : Option S :=
  (k_resetArena (sI (sI (sI (sI (sA (sA (sA (sA (sA (sA (sA (sA (sA s0 0 (rep 256 0)) 1 (rep 32 0)) 2 (rep 32 0)) 3 (rep 32 0)) 4 (rep 32 0)) 5 (rep 32 0)) 6 (rep 32 0)) 7 (rep 32 0)) 8 (rep 32 0)) 0 (k_clamp v1 (8 : Int32) (32 : Int32))) 1 (k_clamp v2 (1 : Int32) (3 : Int32))) 2 (k_clamp v3 (0 : Int32) (256 : Int32))) 3 ((8 : Int32) * (k_clamp v1 (8 : Int32) (32 : Int32))))).bind fun r126 =>
  (k_resetChunks r126).bind fun r130 =>
  (k_resetQuarantine r130).bind fun r134 =>
  (k_resetRuns r134).bind fun r138 =>
  some (sI (sI (sL (sI r138 8 (0 : Int32)) 9 (0 : Int64)) 10 (0 : Int32)) 11 (0 : Int32))
def k_userGranulesFor  (v1 : Int32)  : Option Int32 :=
  some ((v1 + (7 : Int32)) / (8 : Int32))
def k_spanFor  (v1 : Int32) (s : S) : Option Int32 :=
  (k_userGranulesFor v1).bind fun r8 =>
  some (((2 : Int32) * (gI s 1)) + r8)
def k_findFitRun_2  : Nat → Int32 → Int32 → S → Option Int32
  | 0, _, _, _ => none
  | n + 1, v1, v2, s =>
    if v2 < (gI s 7) then
      if v2 < (32 : Int32) then
        (ix (gA s 8) v2).bind fun a21 =>
        if a21 < v1 then
          k_findFitRun_2 n v1 (v2 + (1 : Int32)) s
        else
          some v2
      else
        some (-1 : Int32)
    else
      some (-1 : Int32)
def k_findFitRun  (v1 : Int32) (s : S) : Option Int32 :=
  k_findFitRun_2 BIG v1 (0 : Int32) s
def k_findRoom  (v1 : Int32) (s : S) : Option Int32 :=
  (k_findFitRun v1 s).bind fun r2 =>
  if (0 : Int32) < (64 : Int32) then
    if r2 < 0 then
      if 0 < (gI s 5) then
        none
      else
        some r2
    else
      some r2
  else
    some r2
def k_findUnusedSlot_2  : Nat → Int32 → S → Option Int32
  | 0, _, _ => none
  | n + 1, v1, s =>
    if v1 < (32 : Int32) then
      (ix (gA s 5) v1).bind fun a13 =>
      if a13 = 0 then
        some v1
      else
        k_findUnusedSlot_2 n (v1 + (1 : Int32)) s
    else
      some (-1 : Int32)
def k_findUnusedSlot   (s : S) : Option Int32 :=
  k_findUnusedSlot_2 BIG (0 : Int32) s
def k_carveFront  (v1 : Int32) (v2 : Int32) (s : S) : Option S :=
  if v1 < 0 then
    some s
  else
    if v1 < (gI s 7) then
      (ix (gA s 7) v1).bind fun a19 =>
      (Jvm.AM.st (gA s 7) v1 (a19 + v2)).bind fun a22 =>
      (ix (gA s 8) v1).bind fun a29 =>
      (Jvm.AM.st (gA s 8) v1 (a29 - v2)).bind fun a32 =>
      (ix a32 v1).bind fun a38 =>
      if 0 < a38 then
        some (sA (sA s 7 a22) 8 a32)
      else
        none
    else
      some s
def k_setOwner_3  : Nat → Int32 → Int32 → Int32 → Int32 → S → Option S
  | 0, _, _, _, _, _ => none
  | n + 1, v1, v2, v3, v4, s =>
    if v4 < v2 then
      if v4 < (32 : Int32) then
        if (v1 + v4) < 0 then
          k_setOwner_3 n v1 v2 v3 (v4 + (1 : Int32)) s
        else
          if (v1 + v4) < (gI s 0) then
            (Jvm.AM.st (gA s 2) (v1 + v4) v3).bind fun a43 =>
            k_setOwner_3 n v1 v2 v3 (v4 + (1 : Int32)) (sA s 2 a43)
          else
            k_setOwner_3 n v1 v2 v3 (v4 + (1 : Int32)) s
      else
        some s
    else
      some s
def k_setOwner  (v1 : Int32) (v2 : Int32) (v3 : Int32) (s : S) : Option S :=
  k_setOwner_3 BIG v1 v2 v3 (0 : Int32) s
def k_validSlot  (v1 : Int32)  : Int32 :=
  if v1 < 0 then
    (0 : Int32)
  else
    if v1 < (32 : Int32) then
      (1 : Int32)
    else
      (0 : Int32)
def k_userGranule  (v1 : Int32) (s : S) : Option Int32 :=
  if (k_validSlot v1) = 0 then
    some (-1 : Int32)
  else
    (ix (gA s 3) v1).bind fun a15 =>
    some (a15 + (gI s 1))
def k_rightGranule  (v1 : Int32) (s : S) : Option Int32 :=
  if (k_validSlot v1) = 0 then
    some (-1 : Int32)
  else
    (ix (gA s 4) v1).bind fun a15 =>
    (k_userGranule v1 s).bind fun r19 =>
    (k_userGranulesFor a15).bind fun r24 =>
    some (r19 + r24)
def k_paintRange_3  : Nat → Int32 → Int32 → Int32 → Int32 → S → Option S
  | 0, _, _, _, _, _ => none
  | n + 1, v1, v2, v3, v4, s =>
    if v4 < v2 then
      if v4 < (32 : Int32) then
        if (v1 + v4) < 0 then
          k_paintRange_3 n v1 v2 v3 (v4 + (1 : Int32)) s
        else
          if (v1 + v4) < (gI s 0) then
            (Jvm.AM.st (gA s 1) (v1 + v4) v3).bind fun a43 =>
            k_paintRange_3 n v1 v2 v3 (v4 + (1 : Int32)) (sA s 1 a43)
          else
            k_paintRange_3 n v1 v2 v3 (v4 + (1 : Int32)) s
      else
        some s
    else
      some s
def k_paintRange  (v1 : Int32) (v2 : Int32) (v3 : Int32) (s : S) : Option S :=
  k_paintRange_3 BIG v1 v2 v3 (0 : Int32) s
def k_paintLiveChunk  (v1 : Int32) (s : S) : Option S :=
  (ix (gA s 3) v1).bind fun a5 =>
  (k_userGranule v1 s).bind fun r9 =>
  (k_rightGranule v1 s).bind fun r15 =>
  (ix (gA s 4) v1).bind fun a25 =>
  (k_userGranulesFor a25).bind fun r31 =>
  (k_paintRange a5 (gI s 1) (250 : Int32) s).bind fun r45 =>
  (k_paintRange r9 r31 (0 : Int32) r45).bind fun r53 =>
  (k_paintRange r15 (gI r53 1) (251 : Int32) r53).bind fun r66 =>
  if (a25 % (8 : Int32)) = 0 then
    some r66
  else
    if ((r9 + r31) - (1 : Int32)) < 0 then
      some r66
    else
      if ((r9 + r31) - (1 : Int32)) < (gI r66 0) then
        (Jvm.AM.st (gA r66 1) ((r9 + r31) - (1 : Int32)) (a25 % (8 : Int32))).bind fun a111 =>
        some (sA r66 1 a111)
      else
        some r66
def k_userAddressOf  (v1 : Int32) (s : S) : Option Int32 :=
  (k_userGranule v1 s).bind fun r2 =>
  some ((8 : Int32) * r2)
def k_zeroRequested_16  : Nat → Int32 → Int32 → Int32 → S → Option S
  | 0, _, _, _, _ => none
  | n + 1, v2, v3, v4, s =>
    if v4 < v3 then
      if v4 < (64 : Int32) then
        if (v2 + v4) < 0 then
          k_zeroRequested_16 n v2 v3 (v4 + (1 : Int32)) s
        else
          if (v2 + v4) < (gI s 3) then
            (Jvm.AM.st (gA s 0) (v2 + v4) (nar .byte (0 : Int32))).bind fun a56 =>
            k_zeroRequested_16 n v2 v3 (v4 + (1 : Int32)) (sA s 0 a56)
          else
            k_zeroRequested_16 n v2 v3 (v4 + (1 : Int32)) s
      else
        some s
    else
      some s
def k_zeroRequested  (v1 : Int32) (s : S) : Option S :=
  (k_userAddressOf v1 s).bind fun r2 =>
  (ix (gA s 4) v1).bind fun a11 =>
  k_zeroRequested_16 BIG r2 a11 (0 : Int32) s
def k_createChunk  (v1 : Int32) (v2 : Int32) (v3 : Int32) (s : S) : Option (Int32 × S) :=
  (Jvm.AM.st (gA s 3) v1 v2).bind fun a6 =>
  (Jvm.AM.st (gA s 4) v1 v3).bind fun a13 =>
  (Jvm.AM.st (gA s 5) v1 (nar .byte (1 : Int32))).bind fun a20 =>
  (k_spanFor v3 (sA (sA (sA s 3 a6) 4 a13) 5 a20)).bind fun r23 =>
  (k_setOwner v2 r23 v1 (sA (sA (sA s 3 a6) 4 a13) 5 a20)).bind fun r33 =>
  (k_paintLiveChunk v1 r33).bind fun r38 =>
  (k_zeroRequested v1 r38).bind fun r43 =>
  (k_userAddressOf v1 (sI r43 8 ((gI r43 8) + (1 : Int32)))).bind fun r58 =>
  some (r58, sI r43 8 ((gI r43 8) + (1 : Int32)))
def k_alloc  (v1 : Int32) (s : S) : Option (Int32 × S) :=
  if v1 < (1 : Int32) then
    some ((-1 : Int32), s)
  else
    if (64 : Int32) < v1 then
      some ((-1 : Int32), s)
    else
      (k_spanFor v1 s).bind fun r15 =>
      (k_findRoom r15 s).bind fun r21 =>
      if r21 < 0 then
        some ((-2 : Int32), s)
      else
        (k_findUnusedSlot s).bind fun r33 =>
        if r33 < 0 then
          some ((-2 : Int32), s)
        else
          (ix (gA s 7) r21).bind fun a51 =>
          (k_carveFront r21 r15 s).bind fun r57 =>
          (k_createChunk r33 a51 v1 r57).bind fun r66 =>
          some (r66.1, r66.2)
def k_liveCount   (s : S) : Int32 :=
  gI s 8
def k_isAccessSize  (v1 : Int32)  : Int32 :=
  if v1 = (1 : Int32) then
    (1 : Int32)
  else
    if v1 = (2 : Int32) then
      (1 : Int32)
    else
      if v1 = (4 : Int32) then
        (1 : Int32)
      else
        if v1 = (8 : Int32) then
          (1 : Int32)
        else
          (0 : Int32)
def k_kindForShadow_28  (v1 : Int32)  : Int32 :=
  if v1 = (250 : Int32) then
    (1 : Int32)
  else
    if v1 = (251 : Int32) then
      (2 : Int32)
    else
      if v1 = (253 : Int32) then
        (3 : Int32)
      else
        (4 : Int32)
def k_kindForShadow  (v1 : Int32) (v2 : Int32)  : Int32 :=
  if v1 = 0 then
    (0 : Int32)
  else
    if v1 < (1 : Int32) then
      k_kindForShadow_28 v1
    else
      if (7 : Int32) < v1 then
        k_kindForShadow_28 v1
      else
        if v2 < v1 then
          (0 : Int32)
        else
          (2 : Int32)
def k_byteKind  (v1 : Int32) (s : S) : Option Int32 :=
  if v1 < 0 then
    some (5 : Int32)
  else
    if v1 < (gI s 3) then
      (ix (gA s 1) (v1 >>> ((3 : Int32) &&& 31))).bind fun a28 =>
      some (k_kindForShadow a28 (v1 &&& (7 : Int32)))
    else
      some (5 : Int32)
def k_recordError  (v1 : Int32) (s : S) : S :=
  sI (sI s 11 ((gI s 11) + (1 : Int32))) 10 v1
def k_checkAccess_31  (v4 : Int32) (v5 : Int32) (s : S) : Option (Int32 × S) :=
  some (v5, (k_recordError v4 s))
def k_checkAccess_2  : Nat → Int32 → Int32 → Int32 → S → Option (Int32 × S)
  | 0, _, _, _, _ => none
  | n + 1, v1, v2, v3, s =>
    if v3 < v2 then
      if v3 < (8 : Int32) then
        (k_byteKind (v1 + v3) s).bind fun r21 =>
        if r21 = 0 then
          k_checkAccess_2 n v1 v2 (v3 + (1 : Int32)) s
        else
          k_checkAccess_31 (v1 + v3) r21 s
      else
        some ((0 : Int32), s)
    else
      some ((0 : Int32), s)
def k_checkAccess  (v1 : Int32) (v2 : Int32) (s : S) : Option (Int32 × S) :=
  k_checkAccess_2 BIG v1 v2 (0 : Int32) s
def k_writeLittleEndian_3  : Nat → Int32 → Int32 → Int64 → Int32 → S → Option S
  | 0, _, _, _, _, _ => none
  | n + 1, v1, v2, v3, v5, s =>
    if v5 < v2 then
      if v5 < (8 : Int32) then
        if (v1 + v5) < 0 then
          k_writeLittleEndian_3 n v1 v2 v3 (v5 + (1 : Int32)) s
        else
          if (v1 + v5) < (gI s 3) then
            (Jvm.AM.st (gA s 0) (v1 + v5) (nar .byte ((((XT.ushrL v3 ((8 : Int32) * v5)) &&& (255 : Int64)).toInt32).toInt8.toInt32))).bind fun a55 =>
            k_writeLittleEndian_3 n v1 v2 v3 (v5 + (1 : Int32)) (sA s 0 a55)
          else
            k_writeLittleEndian_3 n v1 v2 v3 (v5 + (1 : Int32)) s
      else
        some s
    else
      some s
def k_writeLittleEndian  (v1 : Int32) (v2 : Int32) (v3 : Int64) (s : S) : Option S :=
  k_writeLittleEndian_3 BIG v1 v2 v3 (0 : Int32) s
def k_store  (v1 : Int32) (v2 : Int32) (v3 : Int64) (s : S) : Option (Int32 × S) :=
  if (k_isAccessSize v2) = 0 then
    some ((6 : Int32), s)
  else
    (k_checkAccess v1 v2 s).bind fun r14 =>
    if r14.1 = 0 then
      (k_writeLittleEndian v1 v2 v3 r14.2).bind fun r31 =>
      some ((0 : Int32), r31)
    else
      some (r14.1, r14.2)
def k_readLittleEndian_5  : Nat → Int32 → Int32 → Int64 → Int32 → S → Option Int64
  | 0, _, _, _, _, _ => none
  | n + 1, v1, v2, v3, v5, s =>
    if v5 < v2 then
      if v5 < (8 : Int32) then
        if (v1 + v5) < 0 then
          k_readLittleEndian_5 n v1 v2 v3 (v5 + (1 : Int32)) s
        else
          if (v1 + v5) < (gI s 3) then
            (ix (gA s 0) (v1 + v5)).bind fun a44 =>
            k_readLittleEndian_5 n v1 v2 (v3 ||| (((a44 &&& (255 : Int32)).toInt64) <<< (((8 : Int32) * v5).toInt64 &&& 63))) (v5 + (1 : Int32)) s
          else
            k_readLittleEndian_5 n v1 v2 v3 (v5 + (1 : Int32)) s
      else
        some v3
    else
      some v3
def k_readLittleEndian  (v1 : Int32) (v2 : Int32) (s : S) : Option Int64 :=
  k_readLittleEndian_5 BIG v1 v2 (0 : Int64) (0 : Int32) s
def k_load  (v1 : Int32) (v2 : Int32) (s : S) : Option (Int32 × S) :=
  if (k_isAccessSize v2) = 0 then
    some ((6 : Int32), s)
  else
    (k_checkAccess v1 v2 s).bind fun r14 =>
    if r14.1 = 0 then
      (k_readLittleEndian v1 v2 r14.2).bind fun r28 =>
      some ((0 : Int32), sL r14.2 9 r28)
    else
      some (r14.1, r14.2)
def k_lastValue   (s : S) : Int64 :=
  gL s 9
def k_lastBadAddress   (s : S) : Int32 :=
  gI s 10
def k_slotForUserAddress  (v1 : Int32) (s : S) : Option Int32 :=
  if v1 < 0 then
    some (-1 : Int32)
  else
    if v1 < (gI s 3) then
      if (v1 &&& (7 : Int32)) = 0 then
        (ix (gA s 2) (v1 >>> ((3 : Int32) &&& 31))).bind fun a32 =>
        if (k_validSlot a32) = 0 then
          some (-1 : Int32)
        else
          (ix (gA s 5) a32).bind fun a49 =>
          if a49 = 0 then
            some (-1 : Int32)
          else
            (k_userGranule a32 s).bind fun r57 =>
            if r57 = (v1 >>> ((3 : Int32) &&& 31)) then
              some a32
            else
              some (-1 : Int32)
      else
        some (-1 : Int32)
    else
      some (-1 : Int32)
def k_isLive  (v1 : Int32) (s : S) : Option Int32 :=
  if (k_validSlot v1) = 0 then
    some (0 : Int32)
  else
    (ix (gA s 5) v1).bind fun a13 =>
    if a13 = (1 : Int32) then
      some (1 : Int32)
    else
      some (0 : Int32)
def k_userSize  (v1 : Int32) (s : S) : Option Int32 :=
  (k_slotForUserAddress v1 s).bind fun r2 =>
  (k_isLive r2 s).bind fun r8 =>
  if r8 = 0 then
    some (-1 : Int32)
  else
    (ix (gA s 4) r2).bind fun a21 =>
    some a21
def k_isQuarantined  (v1 : Int32) (s : S) : Option Int32 :=
  if (k_validSlot v1) = 0 then
    some (0 : Int32)
  else
    (ix (gA s 5) v1).bind fun a13 =>
    if a13 = (2 : Int32) then
      some (1 : Int32)
    else
      some (0 : Int32)
def k_paintQuarantined  (v1 : Int32) (s : S) : Option S :=
  (k_userGranule v1 s).bind fun r2 =>
  (ix (gA s 4) v1).bind fun a11 =>
  (k_userGranulesFor a11).bind fun r15 =>
  (k_paintRange r2 r15 (253 : Int32) s).bind fun r27 =>
  some r27
def k_weightOf  (v1 : Int32) (s : S) : Option Int32 :=
  if (k_validSlot v1) = 0 then
    some (0 : Int32)
  else
    (ix (gA s 4) v1).bind fun a15 =>
    (k_spanFor a15 s).bind fun r21 =>
    some ((8 : Int32) * r21)
def k_enqueue  (v1 : Int32) (s : S) : Option S :=
  if (gI s 5) < (32 : Int32) then
    (Jvm.AM.st (gA s 6) (((gI s 4) + (gI s 5)) &&& (31 : Int32)) v1).bind fun a32 =>
    (k_weightOf v1 (sI (sA s 6 a32) 5 ((gI s 5) + (1 : Int32)))).bind fun r50 =>
    some (sI (sI (sA s 6 a32) 5 ((gI s 5) + (1 : Int32))) 6 ((gI s 6) + r50))
  else
    none
def k_quarantineChunk  (v1 : Int32) (s : S) : Option S :=
  (Jvm.AM.st (gA s 5) v1 (nar .byte (2 : Int32))).bind fun a6 =>
  (k_paintQuarantined v1 (sA s 5 a6)).bind fun r9 =>
  (k_enqueue v1 (sI r9 8 ((gI r9 8) - (1 : Int32)))).bind fun r24 =>
  some r24
def k_trimToBudget   (s : S) : Option Unit :=
  if (0 : Int32) < (64 : Int32) then
    if (gI s 2) < (gI s 6) then
      if 0 < (gI s 5) then
        none
      else
        some ()
    else
      some ()
  else
    some ()
def k_free  (v1 : Int32) (s : S) : Option (Int32 × S) :=
  (k_slotForUserAddress v1 s).bind fun r2 =>
  if r2 < 0 then
    some ((2 : Int32), s)
  else
    (k_isQuarantined r2 s).bind fun r14 =>
    if r14 = 0 then
      (k_isLive r2 s).bind fun r24 =>
      if r24 = 0 then
        some ((2 : Int32), s)
      else
        (k_quarantineChunk r2 s).bind fun r34 =>
        (k_trimToBudget r34).bind fun r38 =>
        some ((0 : Int32), r34)
    else
      some ((1 : Int32), s)
def k_quarantineBytes   (s : S) : Int32 :=
  gI s 6
def k_shadow  (v1 : Int32) (s : S) : Option Int32 :=
  if v1 < 0 then
    some (-1 : Int32)
  else
    if v1 < (gI s 0) then
      (ix (gA s 1) v1).bind fun a19 =>
      some a19
    else
      some (-1 : Int32)
def k_errorCount   (s : S) : Int32 :=
  gI s 11
def law_484  (p0 : Int32) (t0 : S) : Option (Int32 × S) :=
  some (nar .boolean p0, t0)
def law_401  (v4 : Int32) (v7 : Int32) (p0 : Int32) (t0 : S) : Option (Int32 × S) :=
  (k_load v4 (1 : Int32) t0).bind fun r407 =>
  (k_free v4 r407.2).bind fun r415 =>
  law_484 (if p0 = 0 then (0 : Int32) else if r407.1 = (3 : Int32) then if r415.1 = (1 : Int32) then if (k_errorCount r415.2) = (((8 : Int32) - v7) + (3 : Int32)) then if (k_lastBadAddress r415.2) = v4 then if (k_liveCount r415.2) = 0 then (1 : Int32) else (0 : Int32) else (0 : Int32) else (0 : Int32) else (0 : Int32) else (0 : Int32)) r415.2
def law_343  (v4 : Int32) (v6 : Int32) (v7 : Int32) (p0 : Int32) (t0 : S) : Option (Int32 × S) :=
  (k_free v4 t0).bind fun r348 =>
  (k_shadow (1 : Int32) r348.2).bind fun r361 =>
  law_401 v4 v7 (if p0 = 0 then (0 : Int32) else if r348.1 = 0 then if (k_quarantineBytes r348.2) = ((8 : Int32) * ((2 : Int32) + v6)) then if r361 = (253 : Int32) then (1 : Int32) else (0 : Int32) else (0 : Int32) else (0 : Int32)) r348.2
def law_317  (v0 : Int32) (v4 : Int32) (v6 : Int32) (v7 : Int32) (p0 : Int32) (t0 : S) : Option (Int32 × S) :=
  (k_userSize v4 t0).bind fun r322 =>
  law_343 v4 v6 v7 (if p0 = 0 then (0 : Int32) else if r322 = v0 then (1 : Int32) else (0 : Int32)) t0
def law_273  (v0 : Int32) (v4 : Int32) (v6 : Int32) (v7 : Int32) (p0 : Int32) (t0 : S) : Option (Int32 × S) :=
  (k_load (v4 - (1 : Int32)) (1 : Int32) t0).bind fun r281 =>
  law_317 v0 v4 v6 v7 (if p0 = 0 then (0 : Int32) else if r281.1 = (1 : Int32) then if (k_lastBadAddress r281.2) = (v4 - (1 : Int32)) then (1 : Int32) else (0 : Int32) else (0 : Int32)) r281.2
def law_229  (v0 : Int32) (v4 : Int32) (v6 : Int32) (v7 : Int32) (p0 : Int32) (t0 : S) : Option (Int32 × S) :=
  (k_load (v4 + v0) (1 : Int32) t0).bind fun r237 =>
  law_273 v0 v4 v6 v7 (if p0 = 0 then (0 : Int32) else if r237.1 = (2 : Int32) then if (k_lastBadAddress r237.2) = (v4 + v0) then (1 : Int32) else (0 : Int32) else (0 : Int32)) r237.2
def law_204  (v0 : Int32) (v4 : Int32) (v5 : Int32) (v6 : Int32) (v7 : Int32) (v9 : Int32) (v10 : Int64) (p0 : Int64) (t0 : S) : Option (Int32 × S) :=
  law_229 v0 v4 v6 v7 (if v5 = 0 then (0 : Int32) else if v9 = 0 then if v10 = p0 then (1 : Int32) else (0 : Int32) else (0 : Int32)) t0
def law_171  (v0 : Int32) (v1 : Int64) (v4 : Int32) (v5 : Int32) (v6 : Int32) (v7 : Int32) (p0 : Int32) (t0 : S) : Option (Int32 × S) :=
  (k_load v4 p0 t0).bind fun r178 =>
  law_204 v0 v4 v5 v6 v7 r178.1 (k_lastValue r178.2) (if v0 < (8 : Int32) then v1 &&& (255 : Int64) else v1) r178.2
def law_159  (v0 : Int32) (v1 : Int64) (v4 : Int32) (v5 : Int32) (v6 : Int32) (v7 : Int32) (t0 : S) : Option (Int32 × S) :=
  law_171 v0 v1 v4 v5 v6 v7 (if v0 < (8 : Int32) then (1 : Int32) else (8 : Int32)) t0
def law_151 (k95 : Int32 → Int64 → Int32 → Int32 → Int32 → Int32 → Int32 → S → Option (Int32 × S)) (v0 : Int32) (v1 : Int64) (v4 : Int32) (v6 : Int32) (v7 : Int32) (v8 : Int32) (p0 : Int32) (t0 : S) : Option (Int32 × S) :=
  k95 v0 v1 v4 p0 v6 v7 (v8 + (1 : Int32)) t0
def law_132 (k95 : Int32 → Int64 → Int32 → Int32 → Int32 → Int32 → Int32 → S → Option (Int32 × S)) (v0 : Int32) (v1 : Int64) (v4 : Int32) (v5 : Int32) (v6 : Int32) (v7 : Int32) (v8 : Int32) (v9 : Int32) (p0 : Int32) (t0 : S) : Option (Int32 × S) :=
  law_151 k95 v0 v1 v4 v6 v7 v8 (if v5 = 0 then (0 : Int32) else if v9 = p0 then (1 : Int32) else (0 : Int32)) t0
def law_95  : Nat → Int32 → Int64 → Int32 → Int32 → Int32 → Int32 → Int32 → S → Option (Int32 × S)
  | 0, _, _, _, _, _, _, _, _ => none
  | n + 1, v0, v1, v4, v5, v6, v7, v8, t0 =>
    if v8 < (8 : Int32) then
      (k_store (v4 + v8) (1 : Int32) (XT.ushrL v1 ((8 : Int32) * v8)) t0).bind fun r116 =>
      law_132 (fun v0 v1 v4 v5 v6 v7 v8 t0 => law_95 n v0 v1 v4 v5 v6 v7 v8 t0) v0 v1 v4 v5 v6 v7 v8 r116.1 (if v8 < v0 then (0 : Int32) else (2 : Int32)) r116.2
    else
      law_159 v0 v1 v4 v5 v6 v7 t0
def law_90  (v0 : Int32) (v1 : Int64) (v4 : Int32) (v5 : Int32) (v6 : Int32) (p0 : Int32) (t0 : S) : Option (Int32 × S) :=
  law_95 BIG v0 v1 v4 v5 v6 p0 (0 : Int32) t0
def law_67  (v0 : Int32) (v1 : Int64) (v4 : Int32) (p0 : Int32) (t0 : S) : Option (Int32 × S) :=
  law_90 v0 v1 v4 p0 ((v0 + (7 : Int32)) / (8 : Int32)) (if v0 < (8 : Int32) then v0 else (8 : Int32)) t0
def law_32  (v4 : Int32) (t0 : S) : Option (Int32 × S) :=
  if v4 = (-1 : Int32) then
    if (k_liveCount t0) = 0 then
      some ((1 : Int32), t0)
    else
      some ((0 : Int32), t0)
  else
    some ((0 : Int32), t0)
def law  (v0 : Int32) (v1 : Int64)  : Option (Int32 × S) :=
  (k_init (16 : Int32) (1 : Int32) (256 : Int32)).bind fun r10 =>
  (k_alloc v0 r10).bind fun r16 =>
  if v0 < (1 : Int32) then
    law_32 r16.1 r16.2
  else
    if (64 : Int32) < v0 then
      law_32 r16.1 r16.2
    else
      law_67 v0 v1 r16.1 (if r16.1 = (8 : Int32) then (1 : Int32) else (0 : Int32)) r16.2
set_option maxRecDepth 65536 in
set_option maxHeartbeats 4000000 in
theorem k_clamp_ok  {s : S} : ∀ (v1 : Int32) (v2 : Int32) (v3 : Int32)   (o : Int32), k_clamp v1 v2 v3 = o → Go PP m0 0 [.val (.ref 1), .val (.int v1), .val (.int v2), .val (.int v3)] [] (none, [(9, s)]) (some (.int o), (none, [(9, s)])) := by
  intro v1 v2 v3 o hf
  unfold k_clamp at hf
  refine go_iloadN (pc := 0) d0_0 rfl (go_iloadN (pc := 1) d0_1 rfl ?_)
  by_cases h1 : v1 < v2
  · replace hf := (if_pos h1).symm.trans hf
    refine go_icN (pc := 2) d0_2 (XT.ii_ge_f h1) ?_
    refine go_iloadN (pc := 5) d0_5 rfl ?_
    cases hf
    exact go_iret (pc := 6) rfl d0_6
  · replace hf := (if_neg h1).symm.trans hf
    refine go_icY (pc := 2) (pc' := 7) d0_2 (XT.ii_ge_t h1) j_2_5 ?_
    refine go_iloadN (pc := 7) d0_7 rfl (go_iloadN (pc := 8) d0_8 rfl ?_)
    by_cases h2 : v3 < v1
    · replace hf := (if_pos h2).symm.trans hf
      refine go_icN (pc := 9) d0_9 (XT.ii_le_f h2) ?_
      refine go_iloadN (pc := 12) d0_12 rfl ?_
      cases hf
      exact go_iret (pc := 13) rfl d0_13
    · replace hf := (if_neg h2).symm.trans hf
      refine go_icY (pc := 9) (pc' := 14) d0_9 (XT.ii_le_t h2) j_9_5 ?_
      refine go_iloadN (pc := 14) d0_14 rfl ?_
      cases hf
      exact go_iret (pc := 15) rfl d0_15
theorem c_k_clamp (v1 : Int32) (v2 : Int32) (v3 : Int32) (s : S) : Call PP m0 [.ref 1, .int v1, .int v2, .int v3] (none, [(9, s)]) (some (.int (k_clamp v1 v2 v3)), (none, [(9, s)])) := call_of_go pl_0 rfl (fun h => nomatch h) (k_clamp_ok v1 v2 v3   _ rfl)
set_option maxRecDepth 65536 in
set_option maxHeartbeats 4000000 in
theorem k_resetArena_32_ok  : ∀ (n : Nat) (v1 : Int32) (s : S)  (o : S), k_resetArena_32 n v1 s = some o → Go PP m1 32 [.val (.ref 1), .val (.int v1)] [] (none, [(9, s)]) (none, (none, [(9, o)])) := by
  intro n
  induction n with
  | zero => intro v1 s o hf; exact nomatch hf
  | succ n ih =>
    intro v1 s o hf
    unfold k_resetArena_32 at hf
    refine go_iloadN (pc := 32) d1_32 rfl (go_sipush (pc := 33) d1_33 cs_256 ?_)
    by_cases h1 : v1 < (256 : Int32)
    · replace hf := (if_pos h1).symm.trans hf
      refine go_icN (pc := 36) d1_36 (XT.ii_ge_f h1) ?_
      refine go_aloadN (pc := 39) d1_39 rfl (go_getA (pc := 40) fa_7 hm_1 d1_40 rfl (go_iloadN (pc := 43) d1_43 rfl (go_iconst (pc := 44) d1_44 ci_0 ?_)))
      obtain ⟨a45, e2, hf⟩ := Option.bind_eq_some_iff.mp hf
      refine go_bastore (pc := 45) (q := 0) ar_0 (by decide) rfl hn_1 rfl e2 d1_45 ?_
      refine go_iinc (pc := 46) (L' := [.val (.ref 1), .val (.int (v1 + (1 : Int32)))]) d1_46 rfl ci_1 rfl (go_goto (pc := 49) (pc' := 32) d1_49 j_49_m17 ?_)
      exact ih (v1 + (1 : Int32)) (sA s 0 a45) _ hf
    · replace hf := (if_neg h1).symm.trans hf
      refine go_icY (pc := 36) (pc' := 52) d1_36 (XT.ii_ge_t h1) j_36_16 ?_
      cases hf
      exact go_ret (pc := 52) rfl d1_52
set_option maxRecDepth 65536 in
set_option maxHeartbeats 4000000 in
theorem k_resetArena_30_ok  : ∀  (s : S) (x1 : Slot) (hx1 : k1 x1) (o : S), k_resetArena_30 s = some o → Go PP m1 30 [.val (.ref 1), x1] [] (none, [(9, s)]) (none, (none, [(9, o)])) := by
  intro s x1 hx1 o hf
  unfold k_resetArena_30 at hf
  refine go_iconst (pc := 30) d1_30 ci_0 (go_istoreN (pc := 31) (L' := [.val (.ref 1), .val (.int (0 : Int32))]) d1_31 (stx rfl hx1 rfl) ?_)
  exact k_resetArena_32_ok BIG (0 : Int32) s _ hf
set_option maxRecDepth 65536 in
set_option maxHeartbeats 4000000 in
theorem k_resetArena_2_ok  : ∀ (n : Nat) (v1 : Int32) (s : S)  (o : S), k_resetArena_2 n v1 s = some o → Go PP m1 2 [.val (.ref 1), .val (.int v1)] [] (none, [(9, s)]) (none, (none, [(9, o)])) := by
  intro n
  induction n with
  | zero => intro v1 s o hf; exact nomatch hf
  | succ n ih =>
    intro v1 s o hf
    unfold k_resetArena_2 at hf
    refine go_iloadN (pc := 2) d1_2 rfl (go_bipush (pc := 3) d1_3 cb_32 ?_)
    by_cases h1 : v1 < (32 : Int32)
    · replace hf := (if_pos h1).symm.trans hf
      refine go_icN (pc := 5) d1_5 (XT.ii_ge_f h1) ?_
      refine go_aloadN (pc := 8) d1_8 rfl (go_getA (pc := 9) fa_13 hm_1 d1_9 rfl (go_iloadN (pc := 12) d1_12 rfl (go_sipush (pc := 13) d1_13 cs_254 ?_)))
      obtain ⟨a16, e2, hf⟩ := Option.bind_eq_some_iff.mp hf
      refine go_iastore (pc := 16) (q := 1) ar_1 rfl hn_1 e2 d1_16 ?_
      refine go_aloadN (pc := 17) d1_17 rfl (go_getA (pc := 18) fa_17 hm_1 d1_18 rfl (go_iloadN (pc := 21) d1_21 rfl (go_iconst (pc := 22) d1_22 ci_m1 ?_)))
      obtain ⟨a23, e3, hf⟩ := Option.bind_eq_some_iff.mp hf
      refine go_iastore (pc := 23) (q := 2) ar_2 rfl hn_1 e3 d1_23 ?_
      refine go_iinc (pc := 24) (L' := [.val (.ref 1), .val (.int (v1 + (1 : Int32)))]) d1_24 rfl ci_1 rfl (go_goto (pc := 27) (pc' := 2) d1_27 j_27_m25 ?_)
      exact ih (v1 + (1 : Int32)) (sA (sA s 1 a16) 2 a23) _ hf
    · replace hf := (if_neg h1).symm.trans hf
      refine go_icY (pc := 5) (pc' := 30) d1_5 (XT.ii_ge_t h1) j_5_25 ?_
      exact k_resetArena_30_ok s (.val (.int v1)) (Or.inr ⟨_, rfl, rfl⟩) _ hf
set_option maxRecDepth 65536 in
set_option maxHeartbeats 4000000 in
theorem k_resetArena_ok  : ∀  (s : S)  (o : S), k_resetArena s = some o → Go PP m1 0 [.val (.ref 1), .unset] [] (none, [(9, s)]) (none, (none, [(9, o)])) := by
  intro s o hf
  unfold k_resetArena at hf
  refine go_iconst (pc := 0) d1_0 ci_0 (go_istoreN (pc := 1) (L' := [.val (.ref 1), .val (.int (0 : Int32))]) d1_1 rfl ?_)
  exact k_resetArena_2_ok BIG (0 : Int32) s _ hf
theorem c_k_resetArena (s : S) (o : S) (hf : k_resetArena s = some o) : Call PP m1 [.ref 1] (none, [(9, s)]) (none, (none, [(9, o)])) := call_of_go pl_0 rfl (fun _ => rfl) (k_resetArena_ok s   _ hf)
set_option maxRecDepth 65536 in
set_option maxHeartbeats 4000000 in
theorem k_resetChunks_2_ok  : ∀ (n : Nat) (v1 : Int32) (s : S)  (o : S), k_resetChunks_2 n v1 s = some o → Go PP m2 2 [.val (.ref 1), .val (.int v1)] [] (none, [(9, s)]) (none, (none, [(9, o)])) := by
  intro n
  induction n with
  | zero => intro v1 s o hf; exact nomatch hf
  | succ n ih =>
    intro v1 s o hf
    unfold k_resetChunks_2 at hf
    refine go_iloadN (pc := 2) d2_2 rfl (go_bipush (pc := 3) d2_3 cb_32 ?_)
    by_cases h1 : v1 < (32 : Int32)
    · replace hf := (if_pos h1).symm.trans hf
      refine go_icN (pc := 5) d2_5 (XT.ii_ge_f h1) ?_
      refine go_aloadN (pc := 8) d2_8 rfl (go_getA (pc := 9) fa_26 hm_2 d2_9 rfl (go_iloadN (pc := 12) d2_12 rfl (go_iconst (pc := 13) d2_13 ci_0 ?_)))
      obtain ⟨a14, e2, hf⟩ := Option.bind_eq_some_iff.mp hf
      refine go_bastore (pc := 14) (q := 5) ar_5 (by decide) rfl hn_2 rfl e2 d2_14 ?_
      refine go_aloadN (pc := 15) d2_15 rfl (go_getA (pc := 16) fa_20 hm_2 d2_16 rfl (go_iloadN (pc := 19) d2_19 rfl (go_iconst (pc := 20) d2_20 ci_0 ?_)))
      obtain ⟨a21, e3, hf⟩ := Option.bind_eq_some_iff.mp hf
      refine go_iastore (pc := 21) (q := 3) ar_3 rfl hn_2 e3 d2_21 ?_
      refine go_aloadN (pc := 22) d2_22 rfl (go_getA (pc := 23) fa_23 hm_2 d2_23 rfl (go_iloadN (pc := 26) d2_26 rfl (go_iconst (pc := 27) d2_27 ci_0 ?_)))
      obtain ⟨a28, e4, hf⟩ := Option.bind_eq_some_iff.mp hf
      refine go_iastore (pc := 28) (q := 4) ar_4 rfl hn_2 e4 d2_28 ?_
      refine go_iinc (pc := 29) (L' := [.val (.ref 1), .val (.int (v1 + (1 : Int32)))]) d2_29 rfl ci_1 rfl (go_goto (pc := 32) (pc' := 2) d2_32 j_32_m30 ?_)
      exact ih (v1 + (1 : Int32)) (sA (sA (sA s 5 a14) 3 a21) 4 a28) _ hf
    · replace hf := (if_neg h1).symm.trans hf
      refine go_icY (pc := 5) (pc' := 35) d2_5 (XT.ii_ge_t h1) j_5_30 ?_
      cases hf
      exact go_ret (pc := 35) rfl d2_35
set_option maxRecDepth 65536 in
set_option maxHeartbeats 4000000 in
theorem k_resetChunks_ok  : ∀  (s : S)  (o : S), k_resetChunks s = some o → Go PP m2 0 [.val (.ref 1), .unset] [] (none, [(9, s)]) (none, (none, [(9, o)])) := by
  intro s o hf
  unfold k_resetChunks at hf
  refine go_iconst (pc := 0) d2_0 ci_0 (go_istoreN (pc := 1) (L' := [.val (.ref 1), .val (.int (0 : Int32))]) d2_1 rfl ?_)
  exact k_resetChunks_2_ok BIG (0 : Int32) s _ hf
theorem c_k_resetChunks (s : S) (o : S) (hf : k_resetChunks s = some o) : Call PP m2 [.ref 1] (none, [(9, s)]) (none, (none, [(9, o)])) := call_of_go pl_0 rfl (fun _ => rfl) (k_resetChunks_ok s   _ hf)
set_option maxRecDepth 65536 in
set_option maxHeartbeats 4000000 in
theorem k_resetQuarantine_21_ok  : ∀  (s : S) (x1 : Slot) (hx1 : k1 x1) (o : S), k_resetQuarantine_21 s = some o → Go PP m3 21 [.val (.ref 1), x1] [] (none, [(9, s)]) (none, (none, [(9, o)])) := by
  intro s x1 hx1 o hf
  unfold k_resetQuarantine_21 at hf
  refine go_aloadN (pc := 21) d3_21 rfl (go_iconst (pc := 22) d3_22 ci_0 (go_putI (pc := 23) fs_136 hm_3 (wr_4 _) hn_3 d3_23 (go_aloadN (pc := 26) d3_26 rfl (go_iconst (pc := 27) d3_27 ci_0 (go_putI (pc := 28) fs_130 hm_3 (wr_5 _) hn_3 d3_28 (go_aloadN (pc := 31) d3_31 rfl (go_iconst (pc := 32) d3_32 ci_0 ?_)))))))
  refine go_putI (pc := 33) fs_133 hm_3 (wr_6 _) hn_3 d3_33 ?_
  cases hf
  exact go_ret (pc := 36) rfl d3_36
set_option maxRecDepth 65536 in
set_option maxHeartbeats 4000000 in
theorem k_resetQuarantine_2_ok  : ∀ (n : Nat) (v1 : Int32) (s : S)  (o : S), k_resetQuarantine_2 n v1 s = some o → Go PP m3 2 [.val (.ref 1), .val (.int v1)] [] (none, [(9, s)]) (none, (none, [(9, o)])) := by
  intro n
  induction n with
  | zero => intro v1 s o hf; exact nomatch hf
  | succ n ih =>
    intro v1 s o hf
    unfold k_resetQuarantine_2 at hf
    refine go_iloadN (pc := 2) d3_2 rfl (go_bipush (pc := 3) d3_3 cb_32 ?_)
    by_cases h1 : v1 < (32 : Int32)
    · replace hf := (if_pos h1).symm.trans hf
      refine go_icN (pc := 5) d3_5 (XT.ii_ge_f h1) ?_
      refine go_aloadN (pc := 8) d3_8 rfl (go_getA (pc := 9) fa_29 hm_3 d3_9 rfl (go_iloadN (pc := 12) d3_12 rfl (go_iconst (pc := 13) d3_13 ci_m1 ?_)))
      obtain ⟨a14, e2, hf⟩ := Option.bind_eq_some_iff.mp hf
      refine go_iastore (pc := 14) (q := 6) ar_6 rfl hn_3 e2 d3_14 ?_
      refine go_iinc (pc := 15) (L' := [.val (.ref 1), .val (.int (v1 + (1 : Int32)))]) d3_15 rfl ci_1 rfl (go_goto (pc := 18) (pc' := 2) d3_18 j_18_m16 ?_)
      exact ih (v1 + (1 : Int32)) (sA s 6 a14) _ hf
    · replace hf := (if_neg h1).symm.trans hf
      refine go_icY (pc := 5) (pc' := 21) d3_5 (XT.ii_ge_t h1) j_5_16 ?_
      exact k_resetQuarantine_21_ok s (.val (.int v1)) (Or.inr ⟨_, rfl, rfl⟩) _ hf
set_option maxRecDepth 65536 in
set_option maxHeartbeats 4000000 in
theorem k_resetQuarantine_ok  : ∀  (s : S)  (o : S), k_resetQuarantine s = some o → Go PP m3 0 [.val (.ref 1), .unset] [] (none, [(9, s)]) (none, (none, [(9, o)])) := by
  intro s o hf
  unfold k_resetQuarantine at hf
  refine go_iconst (pc := 0) d3_0 ci_0 (go_istoreN (pc := 1) (L' := [.val (.ref 1), .val (.int (0 : Int32))]) d3_1 rfl ?_)
  exact k_resetQuarantine_2_ok BIG (0 : Int32) s _ hf
theorem c_k_resetQuarantine (s : S) (o : S) (hf : k_resetQuarantine s = some o) : Call PP m3 [.ref 1] (none, [(9, s)]) (none, (none, [(9, o)])) := call_of_go pl_0 rfl (fun _ => rfl) (k_resetQuarantine_ok s   _ hf)
set_option maxRecDepth 65536 in
set_option maxHeartbeats 4000000 in
theorem k_resetRuns_28_ok  : ∀  (s : S) (x1 : Slot) (hx1 : k1 x1) (o : S), k_resetRuns_28 s = some o → Go PP m4 28 [.val (.ref 1), x1] [] (none, [(9, s)]) (none, (none, [(9, o)])) := by
  intro s x1 hx1 o hf
  unfold k_resetRuns_28 at hf
  refine go_aloadN (pc := 28) d4_28 rfl (go_getA (pc := 29) fa_32 hm_4 d4_29 rfl (go_iconst (pc := 32) d4_32 ci_0 (go_iconst (pc := 33) d4_33 ci_0 ?_)))
  obtain ⟨a34, e1, hf⟩ := Option.bind_eq_some_iff.mp hf
  refine go_iastore (pc := 34) (q := 7) ar_7 rfl hn_4 e1 d4_34 ?_
  refine go_aloadN (pc := 35) d4_35 rfl (go_getA (pc := 36) fa_35 hm_4 d4_36 rfl (go_iconst (pc := 39) d4_39 ci_0 (go_aloadN (pc := 40) d4_40 rfl (go_getI (pc := 41) fs_42 hm_4 d4_41 ?_))))
  obtain ⟨a44, e2, hf⟩ := Option.bind_eq_some_iff.mp hf
  refine go_iastore (pc := 44) (q := 8) ar_8 rfl hn_4 e2 d4_44 ?_
  refine go_aloadN (pc := 45) d4_45 rfl (go_iconst (pc := 46) d4_46 ci_1 (go_putI (pc := 47) fs_145 hm_4 (wr_7 _) hn_4 d4_47 ?_))
  cases hf
  exact go_ret (pc := 50) rfl d4_50
set_option maxRecDepth 65536 in
set_option maxHeartbeats 4000000 in
theorem k_resetRuns_2_ok  : ∀ (n : Nat) (v1 : Int32) (s : S)  (o : S), k_resetRuns_2 n v1 s = some o → Go PP m4 2 [.val (.ref 1), .val (.int v1)] [] (none, [(9, s)]) (none, (none, [(9, o)])) := by
  intro n
  induction n with
  | zero => intro v1 s o hf; exact nomatch hf
  | succ n ih =>
    intro v1 s o hf
    unfold k_resetRuns_2 at hf
    refine go_iloadN (pc := 2) d4_2 rfl (go_bipush (pc := 3) d4_3 cb_32 ?_)
    by_cases h1 : v1 < (32 : Int32)
    · replace hf := (if_pos h1).symm.trans hf
      refine go_icN (pc := 5) d4_5 (XT.ii_ge_f h1) ?_
      refine go_aloadN (pc := 8) d4_8 rfl (go_getA (pc := 9) fa_32 hm_4 d4_9 rfl (go_iloadN (pc := 12) d4_12 rfl (go_iconst (pc := 13) d4_13 ci_0 ?_)))
      obtain ⟨a14, e2, hf⟩ := Option.bind_eq_some_iff.mp hf
      refine go_iastore (pc := 14) (q := 7) ar_7 rfl hn_4 e2 d4_14 ?_
      refine go_aloadN (pc := 15) d4_15 rfl (go_getA (pc := 16) fa_35 hm_4 d4_16 rfl (go_iloadN (pc := 19) d4_19 rfl (go_iconst (pc := 20) d4_20 ci_0 ?_)))
      obtain ⟨a21, e3, hf⟩ := Option.bind_eq_some_iff.mp hf
      refine go_iastore (pc := 21) (q := 8) ar_8 rfl hn_4 e3 d4_21 ?_
      refine go_iinc (pc := 22) (L' := [.val (.ref 1), .val (.int (v1 + (1 : Int32)))]) d4_22 rfl ci_1 rfl (go_goto (pc := 25) (pc' := 2) d4_25 j_25_m23 ?_)
      exact ih (v1 + (1 : Int32)) (sA (sA s 7 a14) 8 a21) _ hf
    · replace hf := (if_neg h1).symm.trans hf
      refine go_icY (pc := 5) (pc' := 28) d4_5 (XT.ii_ge_t h1) j_5_23 ?_
      exact k_resetRuns_28_ok s (.val (.int v1)) (Or.inr ⟨_, rfl, rfl⟩) _ hf
set_option maxRecDepth 65536 in
set_option maxHeartbeats 4000000 in
theorem k_resetRuns_ok  : ∀  (s : S)  (o : S), k_resetRuns s = some o → Go PP m4 0 [.val (.ref 1), .unset] [] (none, [(9, s)]) (none, (none, [(9, o)])) := by
  intro s o hf
  unfold k_resetRuns at hf
  refine go_iconst (pc := 0) d4_0 ci_0 (go_istoreN (pc := 1) (L' := [.val (.ref 1), .val (.int (0 : Int32))]) d4_1 rfl ?_)
  exact k_resetRuns_2_ok BIG (0 : Int32) s _ hf
theorem c_k_resetRuns (s : S) (o : S) (hf : k_resetRuns s = some o) : Call PP m4 [.ref 1] (none, [(9, s)]) (none, (none, [(9, o)])) := call_of_go pl_0 rfl (fun _ => rfl) (k_resetRuns_ok s   _ hf)
set_option maxRecDepth 65536 in
set_option maxHeartbeats 4000000 in
theorem k_init_ok  : ∀ (v1 : Int32) (v2 : Int32) (v3 : Int32)   (o : S), k_init v1 v2 v3 = some o → Go PP m5 0 [.val (.ref 1), .val (.int v1), .val (.int v2), .val (.int v3)] [] (none, [(0, s0)]) (none, (none, [(9, o)])) := by
  intro v1 v2 v3 o hf
  unfold k_init at hf
  refine go_aloadN (pc := 0) d5_0 rfl ?_
  refine go_objinit (pc := 1) (rest := []) (a := 0) (List.mem_of_getElem? (i := 6) rfl) (List.mem_of_getElem? (i := 7) rfl) (List.mem_of_getElem? (i := 8) rfl) rfl rfl d5_1 ?_
  refine go_aloadN (pc := 4) d5_4 rfl (go_sipush (pc := 5) d5_5 cs_256 ?_)
  refine go_newI (pc := 8) (ty := .byte) rfl (by decide) ar_0 (List.mem_of_getElem? (i := 9) rfl) (List.mem_of_getElem? (i := 10) rfl) hm_5 (Or.inr ⟨List.mem_of_getElem? (i := 11) rfl, rfl⟩) rfl hn_5 (by decide) rfl rfl rfl rfl d5_8 d5_10 ?_
  refine go_aloadN (pc := 13) d5_13 rfl (go_bipush (pc := 14) d5_14 cb_32 ?_)
  refine go_newI (pc := 16) (ty := .int) rfl (by decide) ar_1 (List.mem_of_getElem? (i := 12) rfl) (List.mem_of_getElem? (i := 13) rfl) hm_5 (Or.inr ⟨List.mem_of_getElem? (i := 14) rfl, rfl⟩) rfl hn_5 (by decide) rfl rfl rfl rfl d5_16 d5_18 ?_
  refine go_aloadN (pc := 21) d5_21 rfl (go_bipush (pc := 22) d5_22 cb_32 ?_)
  refine go_newI (pc := 24) (ty := .int) rfl (by decide) ar_2 (List.mem_of_getElem? (i := 12) rfl) (List.mem_of_getElem? (i := 15) rfl) hm_5 (Or.inr ⟨List.mem_of_getElem? (i := 16) rfl, rfl⟩) rfl hn_5 (by decide) rfl rfl rfl rfl d5_24 d5_26 ?_
  refine go_aloadN (pc := 29) d5_29 rfl (go_bipush (pc := 30) d5_30 cb_32 ?_)
  refine go_newI (pc := 32) (ty := .int) rfl (by decide) ar_3 (List.mem_of_getElem? (i := 12) rfl) (List.mem_of_getElem? (i := 17) rfl) hm_5 (Or.inr ⟨List.mem_of_getElem? (i := 18) rfl, rfl⟩) rfl hn_5 (by decide) rfl rfl rfl rfl d5_32 d5_34 ?_
  refine go_aloadN (pc := 37) d5_37 rfl (go_bipush (pc := 38) d5_38 cb_32 ?_)
  refine go_newI (pc := 40) (ty := .int) rfl (by decide) ar_4 (List.mem_of_getElem? (i := 12) rfl) (List.mem_of_getElem? (i := 19) rfl) hm_5 (Or.inr ⟨List.mem_of_getElem? (i := 20) rfl, rfl⟩) rfl hn_5 (by decide) rfl rfl rfl rfl d5_40 d5_42 ?_
  refine go_aloadN (pc := 45) d5_45 rfl (go_bipush (pc := 46) d5_46 cb_32 ?_)
  refine go_newI (pc := 48) (ty := .byte) rfl (by decide) ar_5 (List.mem_of_getElem? (i := 9) rfl) (List.mem_of_getElem? (i := 21) rfl) hm_5 (Or.inr ⟨List.mem_of_getElem? (i := 22) rfl, rfl⟩) rfl hn_5 (by decide) rfl rfl rfl rfl d5_48 d5_50 ?_
  refine go_aloadN (pc := 53) d5_53 rfl (go_bipush (pc := 54) d5_54 cb_32 ?_)
  refine go_newI (pc := 56) (ty := .int) rfl (by decide) ar_6 (List.mem_of_getElem? (i := 12) rfl) (List.mem_of_getElem? (i := 23) rfl) hm_5 (Or.inr ⟨List.mem_of_getElem? (i := 24) rfl, rfl⟩) rfl hn_5 (by decide) rfl rfl rfl rfl d5_56 d5_58 ?_
  refine go_aloadN (pc := 61) d5_61 rfl (go_bipush (pc := 62) d5_62 cb_32 ?_)
  refine go_newI (pc := 64) (ty := .int) rfl (by decide) ar_7 (List.mem_of_getElem? (i := 12) rfl) (List.mem_of_getElem? (i := 25) rfl) hm_5 (Or.inr ⟨List.mem_of_getElem? (i := 26) rfl, rfl⟩) rfl hn_5 (by decide) rfl rfl rfl rfl d5_64 d5_66 ?_
  refine go_aloadN (pc := 69) d5_69 rfl (go_bipush (pc := 70) d5_70 cb_32 ?_)
  refine go_newI (pc := 72) (ty := .int) rfl (by decide) ar_8 (List.mem_of_getElem? (i := 12) rfl) (List.mem_of_getElem? (i := 27) rfl) hm_5 (Or.inr ⟨List.mem_of_getElem? (i := 28) rfl, rfl⟩) rfl hn_5 (by decide) rfl rfl rfl rfl d5_72 d5_74 ?_
  refine go_aloadN (pc := 77) d5_77 rfl (go_aloadN (pc := 78) d5_78 rfl (go_iloadN (pc := 79) d5_79 rfl (go_bipush (pc := 80) d5_80 cb_8 (go_bipush (pc := 82) d5_82 cb_32 ?_))))
  refine go_priv (pc := 84) (i := 0) (as := [.int v1, .int (8 : Int32), .int (32 : Int32)]) (rest := [.ref 1]) (w' := (none, [(9, sA (sA (sA (sA (sA (sA (sA (sA (sA s0 0 (rep 256 0)) 1 (rep 32 0)) 2 (rep 32 0)) 3 (rep 32 0)) 4 (rep 32 0)) 5 (rep 32 0)) 6 (rep 32 0)) 7 (rep 32 0)) 8 (rep 32 0))])) lk_0_38 pd_0 rfl oid_0 rfl rfl rfl rfl rfl rfl ⟨rfl, rfl, rfl, rfl, rfl⟩ d5_84 (c_k_clamp v1 (8 : Int32) (32 : Int32) (sA (sA (sA (sA (sA (sA (sA (sA (sA s0 0 (rep 256 0)) 1 (rep 32 0)) 2 (rep 32 0)) 3 (rep 32 0)) 4 (rep 32 0)) 5 (rep 32 0)) 6 (rep 32 0)) 7 (rep 32 0)) 8 (rep 32 0))) ?_
  refine go_putI (pc := 87) fs_42 hm_5 (wr_0 _) hn_5 d5_87 (go_aloadN (pc := 90) d5_90 rfl (go_aloadN (pc := 91) d5_91 rfl (go_iloadN (pc := 92) d5_92 rfl (go_iconst (pc := 93) d5_93 ci_1 (go_iconst (pc := 94) d5_94 ci_3 ?_)))))
  refine go_priv (pc := 95) (i := 0) (as := [.int v2, .int (1 : Int32), .int (3 : Int32)]) (rest := [.ref 1]) (w' := (none, [(9, sI (sA (sA (sA (sA (sA (sA (sA (sA (sA s0 0 (rep 256 0)) 1 (rep 32 0)) 2 (rep 32 0)) 3 (rep 32 0)) 4 (rep 32 0)) 5 (rep 32 0)) 6 (rep 32 0)) 7 (rep 32 0)) 8 (rep 32 0)) 0 (k_clamp v1 (8 : Int32) (32 : Int32)))])) lk_0_38 pd_0 rfl oid_0 rfl rfl rfl rfl rfl rfl ⟨rfl, rfl, rfl, rfl, rfl⟩ d5_95 (c_k_clamp v2 (1 : Int32) (3 : Int32) (sI (sA (sA (sA (sA (sA (sA (sA (sA (sA s0 0 (rep 256 0)) 1 (rep 32 0)) 2 (rep 32 0)) 3 (rep 32 0)) 4 (rep 32 0)) 5 (rep 32 0)) 6 (rep 32 0)) 7 (rep 32 0)) 8 (rep 32 0)) 0 (k_clamp v1 (8 : Int32) (32 : Int32)))) ?_
  refine go_putI (pc := 98) fs_46 hm_5 (wr_1 _) hn_5 d5_98 (go_aloadN (pc := 101) d5_101 rfl (go_aloadN (pc := 102) d5_102 rfl (go_iloadN (pc := 103) d5_103 rfl (go_iconst (pc := 104) d5_104 ci_0 (go_sipush (pc := 105) d5_105 cs_256 ?_)))))
  refine go_priv (pc := 108) (i := 0) (as := [.int v3, .int (0 : Int32), .int (256 : Int32)]) (rest := [.ref 1]) (w' := (none, [(9, sI (sI (sA (sA (sA (sA (sA (sA (sA (sA (sA s0 0 (rep 256 0)) 1 (rep 32 0)) 2 (rep 32 0)) 3 (rep 32 0)) 4 (rep 32 0)) 5 (rep 32 0)) 6 (rep 32 0)) 7 (rep 32 0)) 8 (rep 32 0)) 0 (k_clamp v1 (8 : Int32) (32 : Int32))) 1 (k_clamp v2 (1 : Int32) (3 : Int32)))])) lk_0_38 pd_0 rfl oid_0 rfl rfl rfl rfl rfl rfl ⟨rfl, rfl, rfl, rfl, rfl⟩ d5_108 (c_k_clamp v3 (0 : Int32) (256 : Int32) (sI (sI (sA (sA (sA (sA (sA (sA (sA (sA (sA s0 0 (rep 256 0)) 1 (rep 32 0)) 2 (rep 32 0)) 3 (rep 32 0)) 4 (rep 32 0)) 5 (rep 32 0)) 6 (rep 32 0)) 7 (rep 32 0)) 8 (rep 32 0)) 0 (k_clamp v1 (8 : Int32) (32 : Int32))) 1 (k_clamp v2 (1 : Int32) (3 : Int32)))) ?_
  refine go_putI (pc := 111) fs_49 hm_5 (wr_2 _) hn_5 d5_111 (go_aloadN (pc := 114) d5_114 rfl (go_bipush (pc := 115) d5_115 cb_8 (go_aloadN (pc := 117) d5_117 rfl (go_getI (pc := 118) fs_42 hm_5 d5_118 (go_imul (pc := 121) d5_121 (go_putI (pc := 122) fs_52 hm_5 (wr_3 _) hn_5 d5_122 (go_aloadN (pc := 125) d5_125 rfl ?_)))))))
  obtain ⟨r126, e10, hf⟩ := Option.bind_eq_some_iff.mp hf
  refine go_priv (pc := 126) (i := 0) (as := []) (rest := []) (w' := (none, [(9, r126)])) lk_0_55 pd_1 rfl oid_0 rfl rfl rfl rfl rfl rfl ⟨rfl, rfl, rfl, rfl, rfl⟩ d5_126 (c_k_resetArena (sI (sI (sI (sI (sA (sA (sA (sA (sA (sA (sA (sA (sA s0 0 (rep 256 0)) 1 (rep 32 0)) 2 (rep 32 0)) 3 (rep 32 0)) 4 (rep 32 0)) 5 (rep 32 0)) 6 (rep 32 0)) 7 (rep 32 0)) 8 (rep 32 0)) 0 (k_clamp v1 (8 : Int32) (32 : Int32))) 1 (k_clamp v2 (1 : Int32) (3 : Int32))) 2 (k_clamp v3 (0 : Int32) (256 : Int32))) 3 ((8 : Int32) * (k_clamp v1 (8 : Int32) (32 : Int32)))) _ e10) ?_
  refine go_aloadN (pc := 129) d5_129 rfl ?_
  obtain ⟨r130, e11, hf⟩ := Option.bind_eq_some_iff.mp hf
  refine go_priv (pc := 130) (i := 0) (as := []) (rest := []) (w' := (none, [(9, r130)])) lk_0_58 pd_2 rfl oid_0 rfl rfl rfl rfl rfl rfl ⟨rfl, rfl, rfl, rfl, rfl⟩ d5_130 (c_k_resetChunks r126 _ e11) ?_
  refine go_aloadN (pc := 133) d5_133 rfl ?_
  obtain ⟨r134, e12, hf⟩ := Option.bind_eq_some_iff.mp hf
  refine go_priv (pc := 134) (i := 0) (as := []) (rest := []) (w' := (none, [(9, r134)])) lk_0_61 pd_3 rfl oid_0 rfl rfl rfl rfl rfl rfl ⟨rfl, rfl, rfl, rfl, rfl⟩ d5_134 (c_k_resetQuarantine r130 _ e12) ?_
  refine go_aloadN (pc := 137) d5_137 rfl ?_
  obtain ⟨r138, e13, hf⟩ := Option.bind_eq_some_iff.mp hf
  refine go_priv (pc := 138) (i := 0) (as := []) (rest := []) (w' := (none, [(9, r138)])) lk_0_64 pd_4 rfl oid_0 rfl rfl rfl rfl rfl rfl ⟨rfl, rfl, rfl, rfl, rfl⟩ d5_138 (c_k_resetRuns r134 _ e13) ?_
  refine go_aloadN (pc := 141) d5_141 rfl (go_iconst (pc := 142) d5_142 ci_0 (go_putI (pc := 143) fs_67 hm_5 (wr_8 _) hn_5 d5_143 (go_aloadN (pc := 146) d5_146 rfl (go_lconst (pc := 147) d5_147 cl_0 (go_putJ (pc := 148) fs_70 hm_5 (wr_9 _) hn_5 d5_148 (go_aloadN (pc := 151) d5_151 rfl (go_iconst (pc := 152) d5_152 ci_0 ?_)))))))
  refine go_putI (pc := 153) fs_74 hm_5 (wr_10 _) hn_5 d5_153 (go_aloadN (pc := 156) d5_156 rfl (go_iconst (pc := 157) d5_157 ci_0 (go_putI (pc := 158) fs_77 hm_5 (wr_11 _) hn_5 d5_158 ?_)))
  cases hf
  exact go_ret (pc := 161) rfl d5_161
theorem c_k_init (v1 : Int32) (v2 : Int32) (v3 : Int32) (o : S) (hf : k_init v1 v2 v3 = some o) : Call PP m5 [.ref 1, .int v1, .int v2, .int v3] (none, [(0, s0)]) (none, (none, [(9, o)])) := call_of_go pl_0 rfl (fun _ => rfl) (k_init_ok v1 v2 v3   _ hf)
set_option maxRecDepth 65536 in
set_option maxHeartbeats 4000000 in
theorem k_userGranulesFor_ok  {s : S} : ∀ (v1 : Int32)   (o : Int32), k_userGranulesFor v1 = some o → Go PP m6 0 [.val (.ref 1), .val (.int v1)] [] (none, [(9, s)]) (some (.int o), (none, [(9, s)])) := by
  intro v1 o hf
  unfold k_userGranulesFor at hf
  refine go_iloadN (pc := 0) d6_0 rfl (go_bipush (pc := 1) d6_1 cb_7 (go_iadd (pc := 3) d6_3 (go_bipush (pc := 4) d6_4 cb_8 (go_idiv (pc := 6) d6_6 (by decide) ?_))))
  cases hf
  exact go_iret (pc := 7) rfl d6_7
theorem c_k_userGranulesFor (v1 : Int32) (s : S) (o : Int32) (hf : k_userGranulesFor v1 = some o) : Call PP m6 [.ref 1, .int v1] (none, [(9, s)]) (some (.int o), (none, [(9, s)])) := call_of_go pl_0 rfl (fun h => nomatch h) (k_userGranulesFor_ok v1   _ hf)
set_option maxRecDepth 65536 in
set_option maxHeartbeats 4000000 in
theorem k_spanFor_ok  : ∀ (v1 : Int32) (s : S)  (o : Int32), k_spanFor v1 s = some o → Go PP m7 0 [.val (.ref 1), .val (.int v1)] [] (none, [(9, s)]) (some (.int o), (none, [(9, s)])) := by
  intro v1 s o hf
  unfold k_spanFor at hf
  refine go_iconst (pc := 0) d7_0 ci_2 (go_aloadN (pc := 1) d7_1 rfl (go_getI (pc := 2) fs_46 hm_7 d7_2 (go_imul (pc := 5) d7_5 (go_aloadN (pc := 6) d7_6 rfl (go_iloadN (pc := 7) d7_7 rfl ?_)))))
  obtain ⟨r8, e1, hf⟩ := Option.bind_eq_some_iff.mp hf
  refine go_priv (pc := 8) (i := 0) (as := [.int v1]) (rest := [.int ((2 : Int32) * (gI s 1))]) (w' := (none, [(9, s)])) lk_0_148 pd_6 rfl oid_0 rfl rfl rfl rfl rfl rfl ⟨rfl, rfl, rfl, rfl, rfl⟩ d7_8 (c_k_userGranulesFor v1 s _ e1) ?_
  refine go_iadd (pc := 11) d7_11 ?_
  cases hf
  exact go_iret (pc := 12) rfl d7_12
theorem c_k_spanFor (v1 : Int32) (s : S) (o : Int32) (hf : k_spanFor v1 s = some o) : Call PP m7 [.ref 1, .int v1] (none, [(9, s)]) (some (.int o), (none, [(9, s)])) := call_of_go pl_0 rfl (fun h => nomatch h) (k_spanFor_ok v1 s   _ hf)
set_option maxRecDepth 65536 in
set_option maxHeartbeats 4000000 in
theorem k_findFitRun_2_ok  : ∀ (n : Nat) (v1 : Int32) (v2 : Int32) (s : S)  (o : Int32), k_findFitRun_2 n v1 v2 s = some o → Go PP m8 2 [.val (.ref 1), .val (.int v1), .val (.int v2)] [] (none, [(9, s)]) (some (.int o), (none, [(9, s)])) := by
  intro n
  induction n with
  | zero => intro v1 v2 s o hf; exact nomatch hf
  | succ n ih =>
    intro v1 v2 s o hf
    unfold k_findFitRun_2 at hf
    refine go_iloadN (pc := 2) d8_2 rfl (go_aloadN (pc := 3) d8_3 rfl (go_getI (pc := 4) fs_145 hm_8 d8_4 ?_))
    by_cases h1 : v2 < (gI s 7)
    · replace hf := (if_pos h1).symm.trans hf
      refine go_icN (pc := 7) d8_7 (XT.ii_ge_f h1) ?_
      refine go_iloadN (pc := 10) d8_10 rfl (go_bipush (pc := 11) d8_11 cb_32 ?_)
      by_cases h2 : v2 < (32 : Int32)
      · replace hf := (if_pos h2).symm.trans hf
        refine go_icN (pc := 13) d8_13 (XT.ii_ge_f h2) ?_
        refine go_aloadN (pc := 16) d8_16 rfl (go_getA (pc := 17) fa_35 hm_8 d8_17 rfl (go_iloadN (pc := 20) d8_20 rfl ?_))
        obtain ⟨a21, e3, hf⟩ := Option.bind_eq_some_iff.mp hf
        refine go_iaload (pc := 21) (q := 8) ar_8 rfl e3 d8_21 ?_
        refine go_iloadN (pc := 22) d8_22 rfl ?_
        by_cases h4 : a21 < v1
        · replace hf := (if_pos h4).symm.trans hf
          refine go_icY (pc := 23) (pc' := 28) d8_23 (XT.ii_lt_t h4) j_23_5 ?_
          refine go_iinc (pc := 28) (L' := [.val (.ref 1), .val (.int v1), .val (.int (v2 + (1 : Int32)))]) d8_28 rfl ci_1 rfl (go_goto (pc := 31) (pc' := 2) d8_31 j_31_m29 ?_)
          exact ih v1 (v2 + (1 : Int32)) s _ hf
        · replace hf := (if_neg h4).symm.trans hf
          refine go_icN (pc := 23) d8_23 (XT.ii_lt_f h4) ?_
          refine go_iloadN (pc := 26) d8_26 rfl ?_
          cases hf
          exact go_iret (pc := 27) rfl d8_27
      · replace hf := (if_neg h2).symm.trans hf
        refine go_icY (pc := 13) (pc' := 34) d8_13 (XT.ii_ge_t h2) j_13_21 ?_
        refine go_iconst (pc := 34) d8_34 ci_m1 ?_
        cases hf
        exact go_iret (pc := 35) rfl d8_35
    · replace hf := (if_neg h1).symm.trans hf
      refine go_icY (pc := 7) (pc' := 34) d8_7 (XT.ii_ge_t h1) j_7_27 ?_
      refine go_iconst (pc := 34) d8_34 ci_m1 ?_
      cases hf
      exact go_iret (pc := 35) rfl d8_35
set_option maxRecDepth 65536 in
set_option maxHeartbeats 4000000 in
theorem k_findFitRun_ok  : ∀ (v1 : Int32) (s : S)  (o : Int32), k_findFitRun v1 s = some o → Go PP m8 0 [.val (.ref 1), .val (.int v1), .unset] [] (none, [(9, s)]) (some (.int o), (none, [(9, s)])) := by
  intro v1 s o hf
  unfold k_findFitRun at hf
  refine go_iconst (pc := 0) d8_0 ci_0 (go_istoreN (pc := 1) (L' := [.val (.ref 1), .val (.int v1), .val (.int (0 : Int32))]) d8_1 rfl ?_)
  exact k_findFitRun_2_ok BIG v1 (0 : Int32) s _ hf
theorem c_k_findFitRun (v1 : Int32) (s : S) (o : Int32) (hf : k_findFitRun v1 s = some o) : Call PP m8 [.ref 1, .int v1] (none, [(9, s)]) (some (.int o), (none, [(9, s)])) := call_of_go pl_0 rfl (fun h => nomatch h) (k_findFitRun_ok v1 s   _ hf)
set_option maxRecDepth 65536 in
set_option maxHeartbeats 4000000 in
theorem k_findRoom_ok  : ∀ (v1 : Int32) (s : S)  (o : Int32), k_findRoom v1 s = some o → Go PP m9 0 [.val (.ref 1), .val (.int v1), .unset, .unset] [] (none, [(9, s)]) (some (.int o), (none, [(9, s)])) := by
  intro v1 s o hf
  unfold k_findRoom at hf
  refine go_aloadN (pc := 0) d9_0 rfl (go_iloadN (pc := 1) d9_1 rfl ?_)
  obtain ⟨r2, e1, hf⟩ := Option.bind_eq_some_iff.mp hf
  refine go_priv (pc := 2) (i := 0) (as := [.int v1]) (rest := []) (w' := (none, [(9, s)])) lk_0_188 pd_8 rfl oid_0 rfl rfl rfl rfl rfl rfl ⟨rfl, rfl, rfl, rfl, rfl⟩ d9_2 (c_k_findFitRun v1 s _ e1) ?_
  refine go_istoreN (pc := 5) (L' := [.val (.ref 1), .val (.int v1), .val (.int r2), .unset]) d9_5 rfl (go_iconst (pc := 6) d9_6 ci_0 (go_istoreN (pc := 7) (L' := [.val (.ref 1), .val (.int v1), .val (.int r2), .val (.int (0 : Int32))]) d9_7 rfl (go_iloadN (pc := 8) d9_8 rfl (go_bipush (pc := 9) d9_9 cb_64 ?_))))
  by_cases h2 : (0 : Int32) < (64 : Int32)
  · replace hf := (if_pos h2).symm.trans hf
    refine go_icN (pc := 11) d9_11 (XT.ii_ge_f h2) ?_
    refine go_iloadN (pc := 14) d9_14 rfl ?_
    by_cases h3 : r2 < 0
    · replace hf := (if_pos h3).symm.trans hf
      refine go_ifN (pc := 15) d9_15 (XT.i0_ge_f h3) ?_
      refine go_aloadN (pc := 18) d9_18 rfl (go_getI (pc := 19) fs_130 hm_9 d9_19 ?_)
      by_cases h4 : 0 < (gI s 5)
      · replace hf := (if_pos h4).symm.trans hf
        refine go_ifN (pc := 22) d9_22 (XT.i0_le_f h4) ?_
        refine go_aloadN (pc := 25) d9_25 rfl ?_
        exact nomatch hf
      · replace hf := (if_neg h4).symm.trans hf
        refine go_ifY (pc := 22) (pc' := 41) d9_22 (XT.i0_le_t h4) j_22_19 ?_
        refine go_iloadN (pc := 41) d9_41 rfl ?_
        cases hf
        exact go_iret (pc := 42) rfl d9_42
    · replace hf := (if_neg h3).symm.trans hf
      refine go_ifY (pc := 15) (pc' := 41) d9_15 (XT.i0_ge_t h3) j_15_26 ?_
      refine go_iloadN (pc := 41) d9_41 rfl ?_
      cases hf
      exact go_iret (pc := 42) rfl d9_42
  · replace hf := (if_neg h2).symm.trans hf
    refine go_icY (pc := 11) (pc' := 41) d9_11 (XT.ii_ge_t h2) j_11_30 ?_
    refine go_iloadN (pc := 41) d9_41 rfl ?_
    cases hf
    exact go_iret (pc := 42) rfl d9_42
theorem c_k_findRoom (v1 : Int32) (s : S) (o : Int32) (hf : k_findRoom v1 s = some o) : Call PP m9 [.ref 1, .int v1] (none, [(9, s)]) (some (.int o), (none, [(9, s)])) := call_of_go pl_0 rfl (fun h => nomatch h) (k_findRoom_ok v1 s   _ hf)
set_option maxRecDepth 65536 in
set_option maxHeartbeats 4000000 in
theorem k_findUnusedSlot_2_ok  : ∀ (n : Nat) (v1 : Int32) (s : S)  (o : Int32), k_findUnusedSlot_2 n v1 s = some o → Go PP m10 2 [.val (.ref 1), .val (.int v1)] [] (none, [(9, s)]) (some (.int o), (none, [(9, s)])) := by
  intro n
  induction n with
  | zero => intro v1 s o hf; exact nomatch hf
  | succ n ih =>
    intro v1 s o hf
    unfold k_findUnusedSlot_2 at hf
    refine go_iloadN (pc := 2) d10_2 rfl (go_bipush (pc := 3) d10_3 cb_32 ?_)
    by_cases h1 : v1 < (32 : Int32)
    · replace hf := (if_pos h1).symm.trans hf
      refine go_icN (pc := 5) d10_5 (XT.ii_ge_f h1) ?_
      refine go_aloadN (pc := 8) d10_8 rfl (go_getA (pc := 9) fa_26 hm_10 d10_9 rfl (go_iloadN (pc := 12) d10_12 rfl ?_))
      obtain ⟨a13, e2, hf⟩ := Option.bind_eq_some_iff.mp hf
      refine go_baload (pc := 13) (q := 5) ar_5 (by decide) rfl e2 d10_13 ?_
      by_cases h3 : a13 = 0
      · replace hf := (if_pos h3).symm.trans hf
        refine go_ifN (pc := 14) d10_14 (XT.i0_ne_f h3) ?_
        refine go_iloadN (pc := 17) d10_17 rfl ?_
        cases hf
        exact go_iret (pc := 18) rfl d10_18
      · replace hf := (if_neg h3).symm.trans hf
        refine go_ifY (pc := 14) (pc' := 19) d10_14 (XT.i0_ne_t h3) j_14_5 ?_
        refine go_iinc (pc := 19) (L' := [.val (.ref 1), .val (.int (v1 + (1 : Int32)))]) d10_19 rfl ci_1 rfl (go_goto (pc := 22) (pc' := 2) d10_22 j_22_m20 ?_)
        exact ih (v1 + (1 : Int32)) s _ hf
    · replace hf := (if_neg h1).symm.trans hf
      refine go_icY (pc := 5) (pc' := 25) d10_5 (XT.ii_ge_t h1) j_5_20 ?_
      refine go_iconst (pc := 25) d10_25 ci_m1 ?_
      cases hf
      exact go_iret (pc := 26) rfl d10_26
set_option maxRecDepth 65536 in
set_option maxHeartbeats 4000000 in
theorem k_findUnusedSlot_ok  : ∀  (s : S)  (o : Int32), k_findUnusedSlot s = some o → Go PP m10 0 [.val (.ref 1), .unset] [] (none, [(9, s)]) (some (.int o), (none, [(9, s)])) := by
  intro s o hf
  unfold k_findUnusedSlot at hf
  refine go_iconst (pc := 0) d10_0 ci_0 (go_istoreN (pc := 1) (L' := [.val (.ref 1), .val (.int (0 : Int32))]) d10_1 rfl ?_)
  exact k_findUnusedSlot_2_ok BIG (0 : Int32) s _ hf
theorem c_k_findUnusedSlot (s : S) (o : Int32) (hf : k_findUnusedSlot s = some o) : Call PP m10 [.ref 1] (none, [(9, s)]) (some (.int o), (none, [(9, s)])) := call_of_go pl_0 rfl (fun h => nomatch h) (k_findUnusedSlot_ok s   _ hf)
set_option maxRecDepth 65536 in
set_option maxHeartbeats 4000000 in
theorem k_carveFront_ok  : ∀ (v1 : Int32) (v2 : Int32) (s : S)  (o : S), k_carveFront v1 v2 s = some o → Go PP m11 0 [.val (.ref 1), .val (.int v1), .val (.int v2)] [] (none, [(9, s)]) (none, (none, [(9, o)])) := by
  intro v1 v2 s o hf
  unfold k_carveFront at hf
  refine go_iloadN (pc := 0) d11_0 rfl ?_
  by_cases h1 : v1 < 0
  · replace hf := (if_pos h1).symm.trans hf
    refine go_ifY (pc := 1) (pc' := 12) d11_1 (XT.i0_lt_t h1) j_1_11 ?_
    cases hf
    exact go_ret (pc := 12) rfl d11_12
  · replace hf := (if_neg h1).symm.trans hf
    refine go_ifN (pc := 1) d11_1 (XT.i0_lt_f h1) ?_
    refine go_iloadN (pc := 4) d11_4 rfl (go_aloadN (pc := 5) d11_5 rfl (go_getI (pc := 6) fs_145 hm_11 d11_6 ?_))
    by_cases h2 : v1 < (gI s 7)
    · replace hf := (if_pos h2).symm.trans hf
      refine go_icY (pc := 9) (pc' := 13) d11_9 (XT.ii_lt_t h2) j_9_4 ?_
      refine go_aloadN (pc := 13) d11_13 rfl (go_getA (pc := 14) fa_32 hm_11 d11_14 rfl (go_iloadN (pc := 17) d11_17 rfl (go_dup2 (pc := 18) d11_18 ?_)))
      obtain ⟨a19, e3, hf⟩ := Option.bind_eq_some_iff.mp hf
      refine go_iaload (pc := 19) (q := 7) ar_7 rfl e3 d11_19 ?_
      refine go_iloadN (pc := 20) d11_20 rfl (go_iadd (pc := 21) d11_21 ?_)
      obtain ⟨a22, e4, hf⟩ := Option.bind_eq_some_iff.mp hf
      refine go_iastore (pc := 22) (q := 7) ar_7 rfl hn_11 e4 d11_22 ?_
      refine go_aloadN (pc := 23) d11_23 rfl (go_getA (pc := 24) fa_35 hm_11 d11_24 rfl (go_iloadN (pc := 27) d11_27 rfl (go_dup2 (pc := 28) d11_28 ?_)))
      obtain ⟨a29, e5, hf⟩ := Option.bind_eq_some_iff.mp hf
      refine go_iaload (pc := 29) (q := 8) ar_8 rfl e5 d11_29 ?_
      refine go_iloadN (pc := 30) d11_30 rfl (go_isub (pc := 31) d11_31 ?_)
      obtain ⟨a32, e6, hf⟩ := Option.bind_eq_some_iff.mp hf
      refine go_iastore (pc := 32) (q := 8) ar_8 rfl hn_11 e6 d11_32 ?_
      refine go_aloadN (pc := 33) d11_33 rfl (go_getA (pc := 34) fa_35 hm_11 d11_34 rfl (go_iloadN (pc := 37) d11_37 rfl ?_))
      obtain ⟨a38, e7, hf⟩ := Option.bind_eq_some_iff.mp hf
      refine go_iaload (pc := 38) (q := 8) ar_8 rfl e7 d11_38 ?_
      by_cases h8 : 0 < a38
      · replace hf := (if_pos h8).symm.trans hf
        refine go_ifY (pc := 39) (pc' := 47) d11_39 (XT.i0_gt_t h8) j_39_8 ?_
        cases hf
        exact go_ret (pc := 47) rfl d11_47
      · replace hf := (if_neg h8).symm.trans hf
        refine go_ifN (pc := 39) d11_39 (XT.i0_gt_f h8) ?_
        refine go_aloadN (pc := 42) d11_42 rfl (go_iloadN (pc := 43) d11_43 rfl ?_)
        exact nomatch hf
    · replace hf := (if_neg h2).symm.trans hf
      refine go_icN (pc := 9) d11_9 (XT.ii_lt_f h2) ?_
      cases hf
      exact go_ret (pc := 12) rfl d11_12
theorem c_k_carveFront (v1 : Int32) (v2 : Int32) (s : S) (o : S) (hf : k_carveFront v1 v2 s = some o) : Call PP m11 [.ref 1, .int v1, .int v2] (none, [(9, s)]) (none, (none, [(9, o)])) := call_of_go pl_0 rfl (fun _ => rfl) (k_carveFront_ok v1 v2 s   _ hf)
set_option maxRecDepth 65536 in
set_option maxHeartbeats 4000000 in
theorem k_setOwner_3_ok  : ∀ (n : Nat) (v1 : Int32) (v2 : Int32) (v3 : Int32) (v4 : Int32) (s : S) (x5 : Slot) (hx5 : k1 x5) (o : S), k_setOwner_3 n v1 v2 v3 v4 s = some o → Go PP m12 3 [.val (.ref 1), .val (.int v1), .val (.int v2), .val (.int v3), .val (.int v4), x5] [] (none, [(9, s)]) (none, (none, [(9, o)])) := by
  intro n
  induction n with
  | zero => intro v1 v2 v3 v4 s x5 hx5 o hf; exact nomatch hf
  | succ n ih =>
    intro v1 v2 v3 v4 s x5 hx5 o hf
    unfold k_setOwner_3 at hf
    refine go_iload (pc := 3) d12_3 rfl (go_iloadN (pc := 5) d12_5 rfl ?_)
    by_cases h1 : v4 < v2
    · replace hf := (if_pos h1).symm.trans hf
      refine go_icN (pc := 6) d12_6 (XT.ii_ge_f h1) ?_
      refine go_iload (pc := 9) d12_9 rfl (go_bipush (pc := 11) d12_11 cb_32 ?_)
      by_cases h2 : v4 < (32 : Int32)
      · replace hf := (if_pos h2).symm.trans hf
        refine go_icN (pc := 13) d12_13 (XT.ii_ge_f h2) ?_
        refine go_iloadN (pc := 16) d12_16 rfl (go_iload (pc := 17) d12_17 rfl (go_iadd (pc := 19) d12_19 (go_istore (pc := 20) (L' := [.val (.ref 1), .val (.int v1), .val (.int v2), .val (.int v3), .val (.int v4), .val (.int (v1 + v4))]) d12_20 (stx rfl hx5 rfl) (go_iload (pc := 22) d12_22 rfl ?_))))
        by_cases h3 : (v1 + v4) < 0
        · replace hf := (if_pos h3).symm.trans hf
          refine go_ifY (pc := 24) (pc' := 44) d12_24 (XT.i0_lt_t h3) j_24_20 ?_
          refine go_iinc (pc := 44) (L' := [.val (.ref 1), .val (.int v1), .val (.int v2), .val (.int v3), .val (.int (v4 + (1 : Int32))), .val (.int (v1 + v4))]) d12_44 rfl ci_1 rfl (go_goto (pc := 47) (pc' := 3) d12_47 j_47_m44 ?_)
          exact ih v1 v2 v3 (v4 + (1 : Int32)) s (.val (.int (v1 + v4))) (Or.inr ⟨_, rfl, rfl⟩) _ hf
        · replace hf := (if_neg h3).symm.trans hf
          refine go_ifN (pc := 24) d12_24 (XT.i0_lt_f h3) ?_
          refine go_iload (pc := 27) d12_27 rfl (go_aloadN (pc := 29) d12_29 rfl (go_getI (pc := 30) fs_42 hm_12 d12_30 ?_))
          by_cases h4 : (v1 + v4) < (gI s 0)
          · replace hf := (if_pos h4).symm.trans hf
            refine go_icN (pc := 33) d12_33 (XT.ii_ge_f h4) ?_
            refine go_aloadN (pc := 36) d12_36 rfl (go_getA (pc := 37) fa_17 hm_12 d12_37 rfl (go_iload (pc := 40) d12_40 rfl (go_iloadN (pc := 42) d12_42 rfl ?_)))
            obtain ⟨a43, e5, hf⟩ := Option.bind_eq_some_iff.mp hf
            refine go_iastore (pc := 43) (q := 2) ar_2 rfl hn_12 e5 d12_43 ?_
            refine go_iinc (pc := 44) (L' := [.val (.ref 1), .val (.int v1), .val (.int v2), .val (.int v3), .val (.int (v4 + (1 : Int32))), .val (.int (v1 + v4))]) d12_44 rfl ci_1 rfl (go_goto (pc := 47) (pc' := 3) d12_47 j_47_m44 ?_)
            exact ih v1 v2 v3 (v4 + (1 : Int32)) (sA s 2 a43) (.val (.int (v1 + v4))) (Or.inr ⟨_, rfl, rfl⟩) _ hf
          · replace hf := (if_neg h4).symm.trans hf
            refine go_icY (pc := 33) (pc' := 44) d12_33 (XT.ii_ge_t h4) j_33_11 ?_
            refine go_iinc (pc := 44) (L' := [.val (.ref 1), .val (.int v1), .val (.int v2), .val (.int v3), .val (.int (v4 + (1 : Int32))), .val (.int (v1 + v4))]) d12_44 rfl ci_1 rfl (go_goto (pc := 47) (pc' := 3) d12_47 j_47_m44 ?_)
            exact ih v1 v2 v3 (v4 + (1 : Int32)) s (.val (.int (v1 + v4))) (Or.inr ⟨_, rfl, rfl⟩) _ hf
      · replace hf := (if_neg h2).symm.trans hf
        refine go_icY (pc := 13) (pc' := 50) d12_13 (XT.ii_ge_t h2) j_13_37 ?_
        cases hf
        exact go_ret (pc := 50) rfl d12_50
    · replace hf := (if_neg h1).symm.trans hf
      refine go_icY (pc := 6) (pc' := 50) d12_6 (XT.ii_ge_t h1) j_6_44 ?_
      cases hf
      exact go_ret (pc := 50) rfl d12_50
set_option maxRecDepth 65536 in
set_option maxHeartbeats 4000000 in
theorem k_setOwner_ok  : ∀ (v1 : Int32) (v2 : Int32) (v3 : Int32) (s : S)  (o : S), k_setOwner v1 v2 v3 s = some o → Go PP m12 0 [.val (.ref 1), .val (.int v1), .val (.int v2), .val (.int v3), .unset, .unset] [] (none, [(9, s)]) (none, (none, [(9, o)])) := by
  intro v1 v2 v3 s o hf
  unfold k_setOwner at hf
  refine go_iconst (pc := 0) d12_0 ci_0 (go_istore (pc := 1) (L' := [.val (.ref 1), .val (.int v1), .val (.int v2), .val (.int v3), .val (.int (0 : Int32)), .unset]) d12_1 rfl ?_)
  exact k_setOwner_3_ok BIG v1 v2 v3 (0 : Int32) s .unset (Or.inl rfl) _ hf
theorem c_k_setOwner (v1 : Int32) (v2 : Int32) (v3 : Int32) (s : S) (o : S) (hf : k_setOwner v1 v2 v3 s = some o) : Call PP m12 [.ref 1, .int v1, .int v2, .int v3] (none, [(9, s)]) (none, (none, [(9, o)])) := call_of_go pl_0 rfl (fun _ => rfl) (k_setOwner_ok v1 v2 v3 s   _ hf)
set_option maxRecDepth 65536 in
set_option maxHeartbeats 4000000 in
theorem k_validSlot_ok  {s : S} : ∀ (v1 : Int32)   (o : Int32), k_validSlot v1 = o → Go PP m13 0 [.val (.ref 1), .val (.int v1)] [] (none, [(9, s)]) (some (.int o), (none, [(9, s)])) := by
  intro v1 o hf
  unfold k_validSlot at hf
  refine go_iloadN (pc := 0) d13_0 rfl ?_
  by_cases h1 : v1 < 0
  · replace hf := (if_pos h1).symm.trans hf
    refine go_ifY (pc := 1) (pc' := 14) d13_1 (XT.i0_lt_t h1) j_1_13 ?_
    refine go_iconst (pc := 14) d13_14 ci_0 ?_
    cases hf
    exact go_zret (pc := 15) rfl d13_15 (show (0 : Int32) = nar .boolean (0 : Int32) by decide)
  · replace hf := (if_neg h1).symm.trans hf
    refine go_ifN (pc := 1) d13_1 (XT.i0_lt_f h1) ?_
    refine go_iloadN (pc := 4) d13_4 rfl (go_bipush (pc := 5) d13_5 cb_32 ?_)
    by_cases h2 : v1 < (32 : Int32)
    · replace hf := (if_pos h2).symm.trans hf
      refine go_icN (pc := 7) d13_7 (XT.ii_ge_f h2) ?_
      refine go_iconst (pc := 10) d13_10 ci_1 (go_goto (pc := 11) (pc' := 15) d13_11 j_11_4 ?_)
      cases hf
      exact go_zret (pc := 15) rfl d13_15 (show (1 : Int32) = nar .boolean (1 : Int32) by decide)
    · replace hf := (if_neg h2).symm.trans hf
      refine go_icY (pc := 7) (pc' := 14) d13_7 (XT.ii_ge_t h2) j_7_7 ?_
      refine go_iconst (pc := 14) d13_14 ci_0 ?_
      cases hf
      exact go_zret (pc := 15) rfl d13_15 (show (0 : Int32) = nar .boolean (0 : Int32) by decide)
theorem c_k_validSlot (v1 : Int32) (s : S) : Call PP m13 [.ref 1, .int v1] (none, [(9, s)]) (some (.int (k_validSlot v1)), (none, [(9, s)])) := call_of_go pl_0 rfl (fun h => nomatch h) (k_validSlot_ok v1   _ rfl)
set_option maxRecDepth 65536 in
set_option maxHeartbeats 4000000 in
theorem k_userGranule_ok  : ∀ (v1 : Int32) (s : S)  (o : Int32), k_userGranule v1 s = some o → Go PP m14 0 [.val (.ref 1), .val (.int v1)] [] (none, [(9, s)]) (some (.int o), (none, [(9, s)])) := by
  intro v1 s o hf
  unfold k_userGranule at hf
  refine go_aloadN (pc := 0) d14_0 rfl (go_iloadN (pc := 1) d14_1 rfl ?_)
  refine go_priv (pc := 2) (i := 0) (as := [.int v1]) (rest := []) (w' := (none, [(9, s)])) lk_0_139 pd_13 rfl oid_0 rfl rfl rfl rfl rfl rfl ⟨rfl, rfl, rfl, rfl, rfl⟩ d14_2 (c_k_validSlot v1 s) ?_
  by_cases h1 : (k_validSlot v1) = 0
  · replace hf := (if_pos h1).symm.trans hf
    refine go_ifN (pc := 5) d14_5 (XT.i0_ne_f h1) ?_
    refine go_iconst (pc := 8) d14_8 ci_m1 ?_
    cases hf
    exact go_iret (pc := 9) rfl d14_9
  · replace hf := (if_neg h1).symm.trans hf
    refine go_ifY (pc := 5) (pc' := 10) d14_5 (XT.i0_ne_t h1) j_5_5 ?_
    refine go_aloadN (pc := 10) d14_10 rfl (go_getA (pc := 11) fa_20 hm_14 d14_11 rfl (go_iloadN (pc := 14) d14_14 rfl ?_))
    obtain ⟨a15, e2, hf⟩ := Option.bind_eq_some_iff.mp hf
    refine go_iaload (pc := 15) (q := 3) ar_3 rfl e2 d14_15 ?_
    refine go_aloadN (pc := 16) d14_16 rfl (go_getI (pc := 17) fs_46 hm_14 d14_17 (go_iadd (pc := 20) d14_20 ?_))
    cases hf
    exact go_iret (pc := 21) rfl d14_21
theorem c_k_userGranule (v1 : Int32) (s : S) (o : Int32) (hf : k_userGranule v1 s = some o) : Call PP m14 [.ref 1, .int v1] (none, [(9, s)]) (some (.int o), (none, [(9, s)])) := call_of_go pl_0 rfl (fun h => nomatch h) (k_userGranule_ok v1 s   _ hf)
set_option maxRecDepth 65536 in
set_option maxHeartbeats 4000000 in
theorem k_rightGranule_ok  : ∀ (v1 : Int32) (s : S)  (o : Int32), k_rightGranule v1 s = some o → Go PP m15 0 [.val (.ref 1), .val (.int v1), .unset] [] (none, [(9, s)]) (some (.int o), (none, [(9, s)])) := by
  intro v1 s o hf
  unfold k_rightGranule at hf
  refine go_aloadN (pc := 0) d15_0 rfl (go_iloadN (pc := 1) d15_1 rfl ?_)
  refine go_priv (pc := 2) (i := 0) (as := [.int v1]) (rest := []) (w' := (none, [(9, s)])) lk_0_139 pd_13 rfl oid_0 rfl rfl rfl rfl rfl rfl ⟨rfl, rfl, rfl, rfl, rfl⟩ d15_2 (c_k_validSlot v1 s) ?_
  by_cases h1 : (k_validSlot v1) = 0
  · replace hf := (if_pos h1).symm.trans hf
    refine go_ifN (pc := 5) d15_5 (XT.i0_ne_f h1) ?_
    refine go_iconst (pc := 8) d15_8 ci_m1 ?_
    cases hf
    exact go_iret (pc := 9) rfl d15_9
  · replace hf := (if_neg h1).symm.trans hf
    refine go_ifY (pc := 5) (pc' := 10) d15_5 (XT.i0_ne_t h1) j_5_5 ?_
    refine go_aloadN (pc := 10) d15_10 rfl (go_getA (pc := 11) fa_23 hm_15 d15_11 rfl (go_iloadN (pc := 14) d15_14 rfl ?_))
    obtain ⟨a15, e2, hf⟩ := Option.bind_eq_some_iff.mp hf
    refine go_iaload (pc := 15) (q := 4) ar_4 rfl e2 d15_15 ?_
    refine go_istoreN (pc := 16) (L' := [.val (.ref 1), .val (.int v1), .val (.int a15)]) d15_16 rfl (go_aloadN (pc := 17) d15_17 rfl (go_iloadN (pc := 18) d15_18 rfl ?_))
    obtain ⟨r19, e3, hf⟩ := Option.bind_eq_some_iff.mp hf
    refine go_priv (pc := 19) (i := 0) (as := [.int v1]) (rest := []) (w' := (none, [(9, s)])) lk_0_151 pd_14 rfl oid_0 rfl rfl rfl rfl rfl rfl ⟨rfl, rfl, rfl, rfl, rfl⟩ d15_19 (c_k_userGranule v1 s _ e3) ?_
    refine go_aloadN (pc := 22) d15_22 rfl (go_iloadN (pc := 23) d15_23 rfl ?_)
    obtain ⟨r24, e4, hf⟩ := Option.bind_eq_some_iff.mp hf
    refine go_priv (pc := 24) (i := 0) (as := [.int a15]) (rest := [.int r19]) (w' := (none, [(9, s)])) lk_0_148 pd_6 rfl oid_0 rfl rfl rfl rfl rfl rfl ⟨rfl, rfl, rfl, rfl, rfl⟩ d15_24 (c_k_userGranulesFor a15 s _ e4) ?_
    refine go_iadd (pc := 27) d15_27 ?_
    cases hf
    exact go_iret (pc := 28) rfl d15_28
theorem c_k_rightGranule (v1 : Int32) (s : S) (o : Int32) (hf : k_rightGranule v1 s = some o) : Call PP m15 [.ref 1, .int v1] (none, [(9, s)]) (some (.int o), (none, [(9, s)])) := call_of_go pl_0 rfl (fun h => nomatch h) (k_rightGranule_ok v1 s   _ hf)
set_option maxRecDepth 65536 in
set_option maxHeartbeats 4000000 in
theorem k_paintRange_3_ok  : ∀ (n : Nat) (v1 : Int32) (v2 : Int32) (v3 : Int32) (v4 : Int32) (s : S) (x5 : Slot) (hx5 : k1 x5) (o : S), k_paintRange_3 n v1 v2 v3 v4 s = some o → Go PP m16 3 [.val (.ref 1), .val (.int v1), .val (.int v2), .val (.int v3), .val (.int v4), x5] [] (none, [(9, s)]) (none, (none, [(9, o)])) := by
  intro n
  induction n with
  | zero => intro v1 v2 v3 v4 s x5 hx5 o hf; exact nomatch hf
  | succ n ih =>
    intro v1 v2 v3 v4 s x5 hx5 o hf
    unfold k_paintRange_3 at hf
    refine go_iload (pc := 3) d16_3 rfl (go_iloadN (pc := 5) d16_5 rfl ?_)
    by_cases h1 : v4 < v2
    · replace hf := (if_pos h1).symm.trans hf
      refine go_icN (pc := 6) d16_6 (XT.ii_ge_f h1) ?_
      refine go_iload (pc := 9) d16_9 rfl (go_bipush (pc := 11) d16_11 cb_32 ?_)
      by_cases h2 : v4 < (32 : Int32)
      · replace hf := (if_pos h2).symm.trans hf
        refine go_icN (pc := 13) d16_13 (XT.ii_ge_f h2) ?_
        refine go_iloadN (pc := 16) d16_16 rfl (go_iload (pc := 17) d16_17 rfl (go_iadd (pc := 19) d16_19 (go_istore (pc := 20) (L' := [.val (.ref 1), .val (.int v1), .val (.int v2), .val (.int v3), .val (.int v4), .val (.int (v1 + v4))]) d16_20 (stx rfl hx5 rfl) (go_iload (pc := 22) d16_22 rfl ?_))))
        by_cases h3 : (v1 + v4) < 0
        · replace hf := (if_pos h3).symm.trans hf
          refine go_ifY (pc := 24) (pc' := 44) d16_24 (XT.i0_lt_t h3) j_24_20 ?_
          refine go_iinc (pc := 44) (L' := [.val (.ref 1), .val (.int v1), .val (.int v2), .val (.int v3), .val (.int (v4 + (1 : Int32))), .val (.int (v1 + v4))]) d16_44 rfl ci_1 rfl (go_goto (pc := 47) (pc' := 3) d16_47 j_47_m44 ?_)
          exact ih v1 v2 v3 (v4 + (1 : Int32)) s (.val (.int (v1 + v4))) (Or.inr ⟨_, rfl, rfl⟩) _ hf
        · replace hf := (if_neg h3).symm.trans hf
          refine go_ifN (pc := 24) d16_24 (XT.i0_lt_f h3) ?_
          refine go_iload (pc := 27) d16_27 rfl (go_aloadN (pc := 29) d16_29 rfl (go_getI (pc := 30) fs_42 hm_16 d16_30 ?_))
          by_cases h4 : (v1 + v4) < (gI s 0)
          · replace hf := (if_pos h4).symm.trans hf
            refine go_icN (pc := 33) d16_33 (XT.ii_ge_f h4) ?_
            refine go_aloadN (pc := 36) d16_36 rfl (go_getA (pc := 37) fa_13 hm_16 d16_37 rfl (go_iload (pc := 40) d16_40 rfl (go_iloadN (pc := 42) d16_42 rfl ?_)))
            obtain ⟨a43, e5, hf⟩ := Option.bind_eq_some_iff.mp hf
            refine go_iastore (pc := 43) (q := 1) ar_1 rfl hn_16 e5 d16_43 ?_
            refine go_iinc (pc := 44) (L' := [.val (.ref 1), .val (.int v1), .val (.int v2), .val (.int v3), .val (.int (v4 + (1 : Int32))), .val (.int (v1 + v4))]) d16_44 rfl ci_1 rfl (go_goto (pc := 47) (pc' := 3) d16_47 j_47_m44 ?_)
            exact ih v1 v2 v3 (v4 + (1 : Int32)) (sA s 1 a43) (.val (.int (v1 + v4))) (Or.inr ⟨_, rfl, rfl⟩) _ hf
          · replace hf := (if_neg h4).symm.trans hf
            refine go_icY (pc := 33) (pc' := 44) d16_33 (XT.ii_ge_t h4) j_33_11 ?_
            refine go_iinc (pc := 44) (L' := [.val (.ref 1), .val (.int v1), .val (.int v2), .val (.int v3), .val (.int (v4 + (1 : Int32))), .val (.int (v1 + v4))]) d16_44 rfl ci_1 rfl (go_goto (pc := 47) (pc' := 3) d16_47 j_47_m44 ?_)
            exact ih v1 v2 v3 (v4 + (1 : Int32)) s (.val (.int (v1 + v4))) (Or.inr ⟨_, rfl, rfl⟩) _ hf
      · replace hf := (if_neg h2).symm.trans hf
        refine go_icY (pc := 13) (pc' := 50) d16_13 (XT.ii_ge_t h2) j_13_37 ?_
        cases hf
        exact go_ret (pc := 50) rfl d16_50
    · replace hf := (if_neg h1).symm.trans hf
      refine go_icY (pc := 6) (pc' := 50) d16_6 (XT.ii_ge_t h1) j_6_44 ?_
      cases hf
      exact go_ret (pc := 50) rfl d16_50
set_option maxRecDepth 65536 in
set_option maxHeartbeats 4000000 in
theorem k_paintRange_ok  : ∀ (v1 : Int32) (v2 : Int32) (v3 : Int32) (s : S)  (o : S), k_paintRange v1 v2 v3 s = some o → Go PP m16 0 [.val (.ref 1), .val (.int v1), .val (.int v2), .val (.int v3), .unset, .unset] [] (none, [(9, s)]) (none, (none, [(9, o)])) := by
  intro v1 v2 v3 s o hf
  unfold k_paintRange at hf
  refine go_iconst (pc := 0) d16_0 ci_0 (go_istore (pc := 1) (L' := [.val (.ref 1), .val (.int v1), .val (.int v2), .val (.int v3), .val (.int (0 : Int32)), .unset]) d16_1 rfl ?_)
  exact k_paintRange_3_ok BIG v1 v2 v3 (0 : Int32) s .unset (Or.inl rfl) _ hf
theorem c_k_paintRange (v1 : Int32) (v2 : Int32) (v3 : Int32) (s : S) (o : S) (hf : k_paintRange v1 v2 v3 s = some o) : Call PP m16 [.ref 1, .int v1, .int v2, .int v3] (none, [(9, s)]) (none, (none, [(9, o)])) := call_of_go pl_0 rfl (fun _ => rfl) (k_paintRange_ok v1 v2 v3 s   _ hf)
set_option maxRecDepth 65536 in
set_option maxHeartbeats 4000000 in
theorem k_paintLiveChunk_ok  : ∀ (v1 : Int32) (s : S)  (o : S), k_paintLiveChunk v1 s = some o → Go PP m17 0 [.val (.ref 1), .val (.int v1), .unset, .unset, .unset, .unset, .unset, .unset, .unset] [] (none, [(9, s)]) (none, (none, [(9, o)])) := by
  intro v1 s o hf
  unfold k_paintLiveChunk at hf
  refine go_aloadN (pc := 0) d17_0 rfl (go_getA (pc := 1) fa_20 hm_17 d17_1 rfl (go_iloadN (pc := 4) d17_4 rfl ?_))
  obtain ⟨a5, e1, hf⟩ := Option.bind_eq_some_iff.mp hf
  refine go_iaload (pc := 5) (q := 3) ar_3 rfl e1 d17_5 ?_
  refine go_istoreN (pc := 6) (L' := [.val (.ref 1), .val (.int v1), .val (.int a5), .unset, .unset, .unset, .unset, .unset, .unset]) d17_6 rfl (go_aloadN (pc := 7) d17_7 rfl (go_iloadN (pc := 8) d17_8 rfl ?_))
  obtain ⟨r9, e2, hf⟩ := Option.bind_eq_some_iff.mp hf
  refine go_priv (pc := 9) (i := 0) (as := [.int v1]) (rest := []) (w' := (none, [(9, s)])) lk_0_151 pd_14 rfl oid_0 rfl rfl rfl rfl rfl rfl ⟨rfl, rfl, rfl, rfl, rfl⟩ d17_9 (c_k_userGranule v1 s _ e2) ?_
  refine go_istoreN (pc := 12) (L' := [.val (.ref 1), .val (.int v1), .val (.int a5), .val (.int r9), .unset, .unset, .unset, .unset, .unset]) d17_12 rfl (go_aloadN (pc := 13) d17_13 rfl (go_iloadN (pc := 14) d17_14 rfl ?_))
  obtain ⟨r15, e3, hf⟩ := Option.bind_eq_some_iff.mp hf
  refine go_priv (pc := 15) (i := 0) (as := [.int v1]) (rest := []) (w' := (none, [(9, s)])) lk_0_154 pd_15 rfl oid_0 rfl rfl rfl rfl rfl rfl ⟨rfl, rfl, rfl, rfl, rfl⟩ d17_15 (c_k_rightGranule v1 s _ e3) ?_
  refine go_istore (pc := 18) (L' := [.val (.ref 1), .val (.int v1), .val (.int a5), .val (.int r9), .val (.int r15), .unset, .unset, .unset, .unset]) d17_18 rfl (go_aloadN (pc := 20) d17_20 rfl (go_getA (pc := 21) fa_23 hm_17 d17_21 rfl (go_iloadN (pc := 24) d17_24 rfl ?_)))
  obtain ⟨a25, e4, hf⟩ := Option.bind_eq_some_iff.mp hf
  refine go_iaload (pc := 25) (q := 4) ar_4 rfl e4 d17_25 ?_
  refine go_istore (pc := 26) (L' := [.val (.ref 1), .val (.int v1), .val (.int a5), .val (.int r9), .val (.int r15), .val (.int a25), .unset, .unset, .unset]) d17_26 rfl (go_aloadN (pc := 28) d17_28 rfl (go_iload (pc := 29) d17_29 rfl ?_))
  obtain ⟨r31, e5, hf⟩ := Option.bind_eq_some_iff.mp hf
  refine go_priv (pc := 31) (i := 0) (as := [.int a25]) (rest := []) (w' := (none, [(9, s)])) lk_0_148 pd_6 rfl oid_0 rfl rfl rfl rfl rfl rfl ⟨rfl, rfl, rfl, rfl, rfl⟩ d17_31 (c_k_userGranulesFor a25 s _ e5) ?_
  refine go_istore (pc := 34) (L' := [.val (.ref 1), .val (.int v1), .val (.int a5), .val (.int r9), .val (.int r15), .val (.int a25), .val (.int r31), .unset, .unset]) d17_34 rfl (go_aloadN (pc := 36) d17_36 rfl (go_iloadN (pc := 37) d17_37 rfl (go_aloadN (pc := 38) d17_38 rfl (go_getI (pc := 39) fs_46 hm_17 d17_39 (go_sipush (pc := 42) d17_42 cs_250 ?_)))))
  obtain ⟨r45, e6, hf⟩ := Option.bind_eq_some_iff.mp hf
  refine go_priv (pc := 45) (i := 0) (as := [.int a5, .int (gI s 1), .int (250 : Int32)]) (rest := []) (w' := (none, [(9, r45)])) lk_0_157 pd_16 rfl oid_0 rfl rfl rfl rfl rfl rfl ⟨rfl, rfl, rfl, rfl, rfl⟩ d17_45 (c_k_paintRange a5 (gI s 1) (250 : Int32) s _ e6) ?_
  refine go_aloadN (pc := 48) d17_48 rfl (go_iloadN (pc := 49) d17_49 rfl (go_iload (pc := 50) d17_50 rfl (go_iconst (pc := 52) d17_52 ci_0 ?_)))
  obtain ⟨r53, e7, hf⟩ := Option.bind_eq_some_iff.mp hf
  refine go_priv (pc := 53) (i := 0) (as := [.int r9, .int r31, .int (0 : Int32)]) (rest := []) (w' := (none, [(9, r53)])) lk_0_157 pd_16 rfl oid_0 rfl rfl rfl rfl rfl rfl ⟨rfl, rfl, rfl, rfl, rfl⟩ d17_53 (c_k_paintRange r9 r31 (0 : Int32) r45 _ e7) ?_
  refine go_aloadN (pc := 56) d17_56 rfl (go_iload (pc := 57) d17_57 rfl (go_aloadN (pc := 59) d17_59 rfl (go_getI (pc := 60) fs_46 hm_17 d17_60 (go_sipush (pc := 63) d17_63 cs_251 ?_))))
  obtain ⟨r66, e8, hf⟩ := Option.bind_eq_some_iff.mp hf
  refine go_priv (pc := 66) (i := 0) (as := [.int r15, .int (gI r53 1), .int (251 : Int32)]) (rest := []) (w' := (none, [(9, r66)])) lk_0_157 pd_16 rfl oid_0 rfl rfl rfl rfl rfl rfl ⟨rfl, rfl, rfl, rfl, rfl⟩ d17_66 (c_k_paintRange r15 (gI r53 1) (251 : Int32) r53 _ e8) ?_
  refine go_iload (pc := 69) d17_69 rfl (go_bipush (pc := 71) d17_71 cb_8 (go_irem (pc := 73) d17_73 (by decide) (go_istore (pc := 74) (L' := [.val (.ref 1), .val (.int v1), .val (.int a5), .val (.int r9), .val (.int r15), .val (.int a25), .val (.int r31), .val (.int (a25 % (8 : Int32))), .unset]) d17_74 rfl (go_iloadN (pc := 76) d17_76 rfl (go_iload (pc := 77) d17_77 rfl (go_iadd (pc := 79) d17_79 (go_iconst (pc := 80) d17_80 ci_1 ?_)))))))
  refine go_isub (pc := 81) d17_81 (go_istore (pc := 82) (L' := [.val (.ref 1), .val (.int v1), .val (.int a5), .val (.int r9), .val (.int r15), .val (.int a25), .val (.int r31), .val (.int (a25 % (8 : Int32))), .val (.int ((r9 + r31) - (1 : Int32)))]) d17_82 rfl (go_iload (pc := 84) d17_84 rfl ?_))
  by_cases h9 : (a25 % (8 : Int32)) = 0
  · replace hf := (if_pos h9).symm.trans hf
    refine go_ifY (pc := 86) (pc' := 112) d17_86 (XT.i0_eq_t h9) j_86_26 ?_
    cases hf
    exact go_ret (pc := 112) rfl d17_112
  · replace hf := (if_neg h9).symm.trans hf
    refine go_ifN (pc := 86) d17_86 (XT.i0_eq_f h9) ?_
    refine go_iload (pc := 89) d17_89 rfl ?_
    by_cases h10 : ((r9 + r31) - (1 : Int32)) < 0
    · replace hf := (if_pos h10).symm.trans hf
      refine go_ifY (pc := 91) (pc' := 112) d17_91 (XT.i0_lt_t h10) j_91_21 ?_
      cases hf
      exact go_ret (pc := 112) rfl d17_112
    · replace hf := (if_neg h10).symm.trans hf
      refine go_ifN (pc := 91) d17_91 (XT.i0_lt_f h10) ?_
      refine go_iload (pc := 94) d17_94 rfl (go_aloadN (pc := 96) d17_96 rfl (go_getI (pc := 97) fs_42 hm_17 d17_97 ?_))
      by_cases h11 : ((r9 + r31) - (1 : Int32)) < (gI r66 0)
      · replace hf := (if_pos h11).symm.trans hf
        refine go_icN (pc := 100) d17_100 (XT.ii_ge_f h11) ?_
        refine go_aloadN (pc := 103) d17_103 rfl (go_getA (pc := 104) fa_13 hm_17 d17_104 rfl (go_iload (pc := 107) d17_107 rfl (go_iload (pc := 109) d17_109 rfl ?_)))
        obtain ⟨a111, e12, hf⟩ := Option.bind_eq_some_iff.mp hf
        refine go_iastore (pc := 111) (q := 1) ar_1 rfl hn_17 e12 d17_111 ?_
        cases hf
        exact go_ret (pc := 112) rfl d17_112
      · replace hf := (if_neg h11).symm.trans hf
        refine go_icY (pc := 100) (pc' := 112) d17_100 (XT.ii_ge_t h11) j_100_12 ?_
        cases hf
        exact go_ret (pc := 112) rfl d17_112
theorem c_k_paintLiveChunk (v1 : Int32) (s : S) (o : S) (hf : k_paintLiveChunk v1 s = some o) : Call PP m17 [.ref 1, .int v1] (none, [(9, s)]) (none, (none, [(9, o)])) := call_of_go pl_0 rfl (fun _ => rfl) (k_paintLiveChunk_ok v1 s   _ hf)
set_option maxRecDepth 65536 in
set_option maxHeartbeats 4000000 in
theorem k_userAddressOf_ok  : ∀ (v1 : Int32) (s : S)  (o : Int32), k_userAddressOf v1 s = some o → Go PP m18 0 [.val (.ref 1), .val (.int v1), .unset] [] (none, [(9, s)]) (some (.int o), (none, [(9, s)])) := by
  intro v1 s o hf
  unfold k_userAddressOf at hf
  refine go_aloadN (pc := 0) d18_0 rfl (go_iloadN (pc := 1) d18_1 rfl ?_)
  obtain ⟨r2, e1, hf⟩ := Option.bind_eq_some_iff.mp hf
  refine go_priv (pc := 2) (i := 0) (as := [.int v1]) (rest := []) (w' := (none, [(9, s)])) lk_0_151 pd_14 rfl oid_0 rfl rfl rfl rfl rfl rfl ⟨rfl, rfl, rfl, rfl, rfl⟩ d18_2 (c_k_userGranule v1 s _ e1) ?_
  refine go_istoreN (pc := 5) (L' := [.val (.ref 1), .val (.int v1), .val (.int r2)]) d18_5 rfl (go_bipush (pc := 6) d18_6 cb_8 (go_iloadN (pc := 8) d18_8 rfl (go_imul (pc := 9) d18_9 ?_)))
  cases hf
  exact go_iret (pc := 10) rfl d18_10
theorem c_k_userAddressOf (v1 : Int32) (s : S) (o : Int32) (hf : k_userAddressOf v1 s = some o) : Call PP m18 [.ref 1, .int v1] (none, [(9, s)]) (some (.int o), (none, [(9, s)])) := call_of_go pl_0 rfl (fun h => nomatch h) (k_userAddressOf_ok v1 s   _ hf)
set_option maxRecDepth 65536 in
set_option maxHeartbeats 4000000 in
theorem k_zeroRequested_16_ok  : ∀ (n : Nat) (v2 : Int32) (v3 : Int32) (v4 : Int32) (s : S) (x1 : Slot) (x5 : Slot) (hx1 : k1 x1) (hx5 : k1 x5) (o : S), k_zeroRequested_16 n v2 v3 v4 s = some o → Go PP m19 16 [.val (.ref 1), x1, .val (.int v2), .val (.int v3), .val (.int v4), x5] [] (none, [(9, s)]) (none, (none, [(9, o)])) := by
  intro n
  induction n with
  | zero => intro v2 v3 v4 s x1 x5 hx1 hx5 o hf; exact nomatch hf
  | succ n ih =>
    intro v2 v3 v4 s x1 x5 hx1 hx5 o hf
    unfold k_zeroRequested_16 at hf
    refine go_iload (pc := 16) d19_16 rfl (go_iloadN (pc := 18) d19_18 rfl ?_)
    by_cases h1 : v4 < v3
    · replace hf := (if_pos h1).symm.trans hf
      refine go_icN (pc := 19) d19_19 (XT.ii_ge_f h1) ?_
      refine go_iload (pc := 22) d19_22 rfl (go_bipush (pc := 24) d19_24 cb_64 ?_)
      by_cases h2 : v4 < (64 : Int32)
      · replace hf := (if_pos h2).symm.trans hf
        refine go_icN (pc := 26) d19_26 (XT.ii_ge_f h2) ?_
        refine go_iloadN (pc := 29) d19_29 rfl (go_iload (pc := 30) d19_30 rfl (go_iadd (pc := 32) d19_32 (go_istore (pc := 33) (L' := [.val (.ref 1), x1, .val (.int v2), .val (.int v3), .val (.int v4), .val (.int (v2 + v4))]) d19_33 (stx rfl hx5 rfl) (go_iload (pc := 35) d19_35 rfl ?_))))
        by_cases h3 : (v2 + v4) < 0
        · replace hf := (if_pos h3).symm.trans hf
          refine go_ifY (pc := 37) (pc' := 57) d19_37 (XT.i0_lt_t h3) j_37_20 ?_
          refine go_iinc (pc := 57) (L' := [.val (.ref 1), x1, .val (.int v2), .val (.int v3), .val (.int (v4 + (1 : Int32))), .val (.int (v2 + v4))]) d19_57 rfl ci_1 rfl (go_goto (pc := 60) (pc' := 16) d19_60 j_60_m44 ?_)
          exact ih v2 v3 (v4 + (1 : Int32)) s x1 (.val (.int (v2 + v4))) hx1 (Or.inr ⟨_, rfl, rfl⟩) _ hf
        · replace hf := (if_neg h3).symm.trans hf
          refine go_ifN (pc := 37) d19_37 (XT.i0_lt_f h3) ?_
          refine go_iload (pc := 40) d19_40 rfl (go_aloadN (pc := 42) d19_42 rfl (go_getI (pc := 43) fs_52 hm_19 d19_43 ?_))
          by_cases h4 : (v2 + v4) < (gI s 3)
          · replace hf := (if_pos h4).symm.trans hf
            refine go_icN (pc := 46) d19_46 (XT.ii_ge_f h4) ?_
            refine go_aloadN (pc := 49) d19_49 rfl (go_getA (pc := 50) fa_7 hm_19 d19_50 rfl (go_iload (pc := 53) d19_53 rfl (go_iconst (pc := 55) d19_55 ci_0 ?_)))
            obtain ⟨a56, e5, hf⟩ := Option.bind_eq_some_iff.mp hf
            refine go_bastore (pc := 56) (q := 0) ar_0 (by decide) rfl hn_19 rfl e5 d19_56 ?_
            refine go_iinc (pc := 57) (L' := [.val (.ref 1), x1, .val (.int v2), .val (.int v3), .val (.int (v4 + (1 : Int32))), .val (.int (v2 + v4))]) d19_57 rfl ci_1 rfl (go_goto (pc := 60) (pc' := 16) d19_60 j_60_m44 ?_)
            exact ih v2 v3 (v4 + (1 : Int32)) (sA s 0 a56) x1 (.val (.int (v2 + v4))) hx1 (Or.inr ⟨_, rfl, rfl⟩) _ hf
          · replace hf := (if_neg h4).symm.trans hf
            refine go_icY (pc := 46) (pc' := 57) d19_46 (XT.ii_ge_t h4) j_46_11 ?_
            refine go_iinc (pc := 57) (L' := [.val (.ref 1), x1, .val (.int v2), .val (.int v3), .val (.int (v4 + (1 : Int32))), .val (.int (v2 + v4))]) d19_57 rfl ci_1 rfl (go_goto (pc := 60) (pc' := 16) d19_60 j_60_m44 ?_)
            exact ih v2 v3 (v4 + (1 : Int32)) s x1 (.val (.int (v2 + v4))) hx1 (Or.inr ⟨_, rfl, rfl⟩) _ hf
      · replace hf := (if_neg h2).symm.trans hf
        refine go_icY (pc := 26) (pc' := 63) d19_26 (XT.ii_ge_t h2) j_26_37 ?_
        cases hf
        exact go_ret (pc := 63) rfl d19_63
    · replace hf := (if_neg h1).symm.trans hf
      refine go_icY (pc := 19) (pc' := 63) d19_19 (XT.ii_ge_t h1) j_19_44 ?_
      cases hf
      exact go_ret (pc := 63) rfl d19_63
set_option maxRecDepth 65536 in
set_option maxHeartbeats 4000000 in
theorem k_zeroRequested_ok  : ∀ (v1 : Int32) (s : S)  (o : S), k_zeroRequested v1 s = some o → Go PP m19 0 [.val (.ref 1), .val (.int v1), .unset, .unset, .unset, .unset] [] (none, [(9, s)]) (none, (none, [(9, o)])) := by
  intro v1 s o hf
  unfold k_zeroRequested at hf
  refine go_aloadN (pc := 0) d19_0 rfl (go_iloadN (pc := 1) d19_1 rfl ?_)
  obtain ⟨r2, e1, hf⟩ := Option.bind_eq_some_iff.mp hf
  refine go_priv (pc := 2) (i := 0) (as := [.int v1]) (rest := []) (w' := (none, [(9, s)])) lk_0_142 pd_18 rfl oid_0 rfl rfl rfl rfl rfl rfl ⟨rfl, rfl, rfl, rfl, rfl⟩ d19_2 (c_k_userAddressOf v1 s _ e1) ?_
  refine go_istoreN (pc := 5) (L' := [.val (.ref 1), .val (.int v1), .val (.int r2), .unset, .unset, .unset]) d19_5 rfl (go_aloadN (pc := 6) d19_6 rfl (go_getA (pc := 7) fa_23 hm_19 d19_7 rfl (go_iloadN (pc := 10) d19_10 rfl ?_)))
  obtain ⟨a11, e2, hf⟩ := Option.bind_eq_some_iff.mp hf
  refine go_iaload (pc := 11) (q := 4) ar_4 rfl e2 d19_11 ?_
  refine go_istoreN (pc := 12) (L' := [.val (.ref 1), .val (.int v1), .val (.int r2), .val (.int a11), .unset, .unset]) d19_12 rfl (go_iconst (pc := 13) d19_13 ci_0 (go_istore (pc := 14) (L' := [.val (.ref 1), .val (.int v1), .val (.int r2), .val (.int a11), .val (.int (0 : Int32)), .unset]) d19_14 rfl ?_))
  exact k_zeroRequested_16_ok BIG r2 a11 (0 : Int32) s (.val (.int v1)) .unset (Or.inr ⟨_, rfl, rfl⟩) (Or.inl rfl) _ hf
theorem c_k_zeroRequested (v1 : Int32) (s : S) (o : S) (hf : k_zeroRequested v1 s = some o) : Call PP m19 [.ref 1, .int v1] (none, [(9, s)]) (none, (none, [(9, o)])) := call_of_go pl_0 rfl (fun _ => rfl) (k_zeroRequested_ok v1 s   _ hf)
set_option maxRecDepth 65536 in
set_option maxHeartbeats 4000000 in
theorem k_createChunk_ok  : ∀ (v1 : Int32) (v2 : Int32) (v3 : Int32) (s : S)  (o : Int32 × S), k_createChunk v1 v2 v3 s = some o → Go PP m20 0 [.val (.ref 1), .val (.int v1), .val (.int v2), .val (.int v3), .unset] [] (none, [(9, s)]) (some (.int o.1), (none, [(9, o.2)])) := by
  intro v1 v2 v3 s o hf
  unfold k_createChunk at hf
  refine go_aloadN (pc := 0) d20_0 rfl (go_getA (pc := 1) fa_20 hm_20 d20_1 rfl (go_iloadN (pc := 4) d20_4 rfl (go_iloadN (pc := 5) d20_5 rfl ?_)))
  obtain ⟨a6, e1, hf⟩ := Option.bind_eq_some_iff.mp hf
  refine go_iastore (pc := 6) (q := 3) ar_3 rfl hn_20 e1 d20_6 ?_
  refine go_aloadN (pc := 7) d20_7 rfl (go_getA (pc := 8) fa_23 hm_20 d20_8 rfl (go_iloadN (pc := 11) d20_11 rfl (go_iloadN (pc := 12) d20_12 rfl ?_)))
  obtain ⟨a13, e2, hf⟩ := Option.bind_eq_some_iff.mp hf
  refine go_iastore (pc := 13) (q := 4) ar_4 rfl hn_20 e2 d20_13 ?_
  refine go_aloadN (pc := 14) d20_14 rfl (go_getA (pc := 15) fa_26 hm_20 d20_15 rfl (go_iloadN (pc := 18) d20_18 rfl (go_iconst (pc := 19) d20_19 ci_1 ?_)))
  obtain ⟨a20, e3, hf⟩ := Option.bind_eq_some_iff.mp hf
  refine go_bastore (pc := 20) (q := 5) ar_5 (by decide) rfl hn_20 rfl e3 d20_20 ?_
  refine go_aloadN (pc := 21) d20_21 rfl (go_iloadN (pc := 22) d20_22 rfl ?_)
  obtain ⟨r23, e4, hf⟩ := Option.bind_eq_some_iff.mp hf
  refine go_priv (pc := 23) (i := 0) (as := [.int v3]) (rest := []) (w' := (none, [(9, sA (sA (sA s 3 a6) 4 a13) 5 a20)])) lk_0_80 pd_7 rfl oid_0 rfl rfl rfl rfl rfl rfl ⟨rfl, rfl, rfl, rfl, rfl⟩ d20_23 (c_k_spanFor v3 (sA (sA (sA s 3 a6) 4 a13) 5 a20) _ e4) ?_
  refine go_istore (pc := 26) (L' := [.val (.ref 1), .val (.int v1), .val (.int v2), .val (.int v3), .val (.int r23)]) d20_26 rfl (go_aloadN (pc := 28) d20_28 rfl (go_iloadN (pc := 29) d20_29 rfl (go_iload (pc := 30) d20_30 rfl (go_iloadN (pc := 32) d20_32 rfl ?_))))
  obtain ⟨r33, e5, hf⟩ := Option.bind_eq_some_iff.mp hf
  refine go_priv (pc := 33) (i := 0) (as := [.int v2, .int r23, .int v1]) (rest := []) (w' := (none, [(9, r33)])) lk_0_161 pd_12 rfl oid_0 rfl rfl rfl rfl rfl rfl ⟨rfl, rfl, rfl, rfl, rfl⟩ d20_33 (c_k_setOwner v2 r23 v1 (sA (sA (sA s 3 a6) 4 a13) 5 a20) _ e5) ?_
  refine go_aloadN (pc := 36) d20_36 rfl (go_iloadN (pc := 37) d20_37 rfl ?_)
  obtain ⟨r38, e6, hf⟩ := Option.bind_eq_some_iff.mp hf
  refine go_priv (pc := 38) (i := 0) (as := [.int v1]) (rest := []) (w' := (none, [(9, r38)])) lk_0_164 pd_17 rfl oid_0 rfl rfl rfl rfl rfl rfl ⟨rfl, rfl, rfl, rfl, rfl⟩ d20_38 (c_k_paintLiveChunk v1 r33 _ e6) ?_
  refine go_aloadN (pc := 41) d20_41 rfl (go_iloadN (pc := 42) d20_42 rfl ?_)
  obtain ⟨r43, e7, hf⟩ := Option.bind_eq_some_iff.mp hf
  refine go_priv (pc := 43) (i := 0) (as := [.int v1]) (rest := []) (w' := (none, [(9, r43)])) lk_0_167 pd_19 rfl oid_0 rfl rfl rfl rfl rfl rfl ⟨rfl, rfl, rfl, rfl, rfl⟩ d20_43 (c_k_zeroRequested v1 r38 _ e7) ?_
  refine go_aloadN (pc := 46) d20_46 rfl (go_dupR (pc := 47) d20_47 (go_getI (pc := 48) fs_67 hm_20 d20_48 (go_iconst (pc := 51) d20_51 ci_1 (go_iadd (pc := 52) d20_52 (go_putI (pc := 53) fs_67 hm_20 (wr_8 _) hn_20 d20_53 (go_aloadN (pc := 56) d20_56 rfl (go_iloadN (pc := 57) d20_57 rfl ?_)))))))
  obtain ⟨r58, e8, hf⟩ := Option.bind_eq_some_iff.mp hf
  refine go_priv (pc := 58) (i := 0) (as := [.int v1]) (rest := []) (w' := (none, [(9, sI r43 8 ((gI r43 8) + (1 : Int32)))])) lk_0_142 pd_18 rfl oid_0 rfl rfl rfl rfl rfl rfl ⟨rfl, rfl, rfl, rfl, rfl⟩ d20_58 (c_k_userAddressOf v1 (sI r43 8 ((gI r43 8) + (1 : Int32))) _ e8) ?_
  cases hf
  exact go_iret (pc := 61) rfl d20_61
theorem c_k_createChunk (v1 : Int32) (v2 : Int32) (v3 : Int32) (s : S) (o : Int32 × S) (hf : k_createChunk v1 v2 v3 s = some o) : Call PP m20 [.ref 1, .int v1, .int v2, .int v3] (none, [(9, s)]) (some (.int o.1), (none, [(9, o.2)])) := call_of_go pl_0 rfl (fun h => nomatch h) (k_createChunk_ok v1 v2 v3 s   _ hf)
set_option maxRecDepth 65536 in
set_option maxHeartbeats 4000000 in
theorem k_alloc_ok  : ∀ (v1 : Int32) (s : S)  (o : Int32 × S), k_alloc v1 s = some o → Go PP m21 0 [.val (.ref 1), .val (.int v1), .unset, .unset, .unset, .unset] [] (none, [(9, s)]) (some (.int o.1), (none, [(9, o.2)])) := by
  intro v1 s o hf
  unfold k_alloc at hf
  refine go_iloadN (pc := 0) d21_0 rfl (go_iconst (pc := 1) d21_1 ci_1 ?_)
  by_cases h1 : v1 < (1 : Int32)
  · replace hf := (if_pos h1).symm.trans hf
    refine go_icY (pc := 2) (pc' := 11) d21_2 (XT.ii_lt_t h1) j_2_9 ?_
    refine go_iconst (pc := 11) d21_11 ci_m1 ?_
    cases hf
    exact go_iret (pc := 12) rfl d21_12
  · replace hf := (if_neg h1).symm.trans hf
    refine go_icN (pc := 2) d21_2 (XT.ii_lt_f h1) ?_
    refine go_iloadN (pc := 5) d21_5 rfl (go_bipush (pc := 6) d21_6 cb_64 ?_)
    by_cases h2 : (64 : Int32) < v1
    · replace hf := (if_pos h2).symm.trans hf
      refine go_icN (pc := 8) d21_8 (XT.ii_le_f h2) ?_
      refine go_iconst (pc := 11) d21_11 ci_m1 ?_
      cases hf
      exact go_iret (pc := 12) rfl d21_12
    · replace hf := (if_neg h2).symm.trans hf
      refine go_icY (pc := 8) (pc' := 13) d21_8 (XT.ii_le_t h2) j_8_5 ?_
      refine go_aloadN (pc := 13) d21_13 rfl (go_iloadN (pc := 14) d21_14 rfl ?_)
      obtain ⟨r15, e3, hf⟩ := Option.bind_eq_some_iff.mp hf
      refine go_priv (pc := 15) (i := 0) (as := [.int v1]) (rest := []) (w' := (none, [(9, s)])) lk_0_80 pd_7 rfl oid_0 rfl rfl rfl rfl rfl rfl ⟨rfl, rfl, rfl, rfl, rfl⟩ d21_15 (c_k_spanFor v1 s _ e3) ?_
      refine go_istoreN (pc := 18) (L' := [.val (.ref 1), .val (.int v1), .val (.int r15), .unset, .unset, .unset]) d21_18 rfl (go_aloadN (pc := 19) d21_19 rfl (go_iloadN (pc := 20) d21_20 rfl ?_))
      obtain ⟨r21, e4, hf⟩ := Option.bind_eq_some_iff.mp hf
      refine go_priv (pc := 21) (i := 0) (as := [.int r15]) (rest := []) (w' := (none, [(9, s)])) lk_0_84 pd_9 rfl oid_0 rfl rfl rfl rfl rfl rfl ⟨rfl, rfl, rfl, rfl, rfl⟩ d21_21 (c_k_findRoom r15 s _ e4) ?_
      refine go_istoreN (pc := 24) (L' := [.val (.ref 1), .val (.int v1), .val (.int r15), .val (.int r21), .unset, .unset]) d21_24 rfl (go_iloadN (pc := 25) d21_25 rfl ?_)
      by_cases h5 : r21 < 0
      · replace hf := (if_pos h5).symm.trans hf
        refine go_ifN (pc := 26) d21_26 (XT.i0_ge_f h5) ?_
        refine go_bipush (pc := 29) d21_29 cb_m2 ?_
        cases hf
        exact go_iret (pc := 31) rfl d21_31
      · replace hf := (if_neg h5).symm.trans hf
        refine go_ifY (pc := 26) (pc' := 32) d21_26 (XT.i0_ge_t h5) j_26_6 ?_
        refine go_aloadN (pc := 32) d21_32 rfl ?_
        obtain ⟨r33, e6, hf⟩ := Option.bind_eq_some_iff.mp hf
        refine go_priv (pc := 33) (i := 0) (as := []) (rest := []) (w' := (none, [(9, s)])) lk_0_87 pd_10 rfl oid_0 rfl rfl rfl rfl rfl rfl ⟨rfl, rfl, rfl, rfl, rfl⟩ d21_33 (c_k_findUnusedSlot s _ e6) ?_
        refine go_istore (pc := 36) (L' := [.val (.ref 1), .val (.int v1), .val (.int r15), .val (.int r21), .val (.int r33), .unset]) d21_36 rfl (go_iload (pc := 38) d21_38 rfl ?_)
        by_cases h7 : r33 < 0
        · replace hf := (if_pos h7).symm.trans hf
          refine go_ifN (pc := 40) d21_40 (XT.i0_ge_f h7) ?_
          refine go_bipush (pc := 43) d21_43 cb_m2 ?_
          cases hf
          exact go_iret (pc := 45) rfl d21_45
        · replace hf := (if_neg h7).symm.trans hf
          refine go_ifY (pc := 40) (pc' := 46) d21_40 (XT.i0_ge_t h7) j_40_6 ?_
          refine go_aloadN (pc := 46) d21_46 rfl (go_getA (pc := 47) fa_32 hm_21 d21_47 rfl (go_iloadN (pc := 50) d21_50 rfl ?_))
          obtain ⟨a51, e8, hf⟩ := Option.bind_eq_some_iff.mp hf
          refine go_iaload (pc := 51) (q := 7) ar_7 rfl e8 d21_51 ?_
          refine go_istore (pc := 52) (L' := [.val (.ref 1), .val (.int v1), .val (.int r15), .val (.int r21), .val (.int r33), .val (.int a51)]) d21_52 rfl (go_aloadN (pc := 54) d21_54 rfl (go_iloadN (pc := 55) d21_55 rfl (go_iloadN (pc := 56) d21_56 rfl ?_)))
          obtain ⟨r57, e9, hf⟩ := Option.bind_eq_some_iff.mp hf
          refine go_priv (pc := 57) (i := 0) (as := [.int r21, .int r15]) (rest := []) (w' := (none, [(9, r57)])) lk_0_91 pd_11 rfl oid_0 rfl rfl rfl rfl rfl rfl ⟨rfl, rfl, rfl, rfl, rfl⟩ d21_57 (c_k_carveFront r21 r15 s _ e9) ?_
          refine go_aloadN (pc := 60) d21_60 rfl (go_iload (pc := 61) d21_61 rfl (go_iload (pc := 63) d21_63 rfl (go_iloadN (pc := 65) d21_65 rfl ?_)))
          obtain ⟨r66, e10, hf⟩ := Option.bind_eq_some_iff.mp hf
          refine go_priv (pc := 66) (i := 0) (as := [.int r33, .int a51, .int v1]) (rest := []) (w' := (none, [(9, r66.2)])) lk_0_95 pd_20 rfl oid_0 rfl rfl rfl rfl rfl rfl ⟨rfl, rfl, rfl, rfl, rfl⟩ d21_66 (c_k_createChunk r33 a51 v1 r57 _ e10) ?_
          cases hf
          exact go_iret (pc := 69) rfl d21_69
theorem c_k_alloc (v1 : Int32) (s : S) (o : Int32 × S) (hf : k_alloc v1 s = some o) : Call PP m21 [.ref 1, .int v1] (none, [(9, s)]) (some (.int o.1), (none, [(9, o.2)])) := call_of_go pl_0 rfl (fun h => nomatch h) (k_alloc_ok v1 s   _ hf)
set_option maxRecDepth 65536 in
set_option maxHeartbeats 4000000 in
theorem k_liveCount_ok  : ∀  (s : S)  (o : Int32), k_liveCount s = o → Go PP m22 0 [.val (.ref 1)] [] (none, [(9, s)]) (some (.int o), (none, [(9, s)])) := by
  intro s o hf
  unfold k_liveCount at hf
  refine go_aloadN (pc := 0) d22_0 rfl (go_getI (pc := 1) fs_67 hm_22 d22_1 ?_)
  cases hf
  exact go_iret (pc := 4) rfl d22_4
theorem c_k_liveCount (s : S) : Call PP m22 [.ref 1] (none, [(9, s)]) (some (.int (k_liveCount s)), (none, [(9, s)])) := call_of_go pl_0 rfl (fun h => nomatch h) (k_liveCount_ok s   _ rfl)
set_option maxRecDepth 65536 in
set_option maxHeartbeats 4000000 in
theorem k_isAccessSize_ok  {s : S} : ∀ (v1 : Int32)   (o : Int32), k_isAccessSize v1 = o → Go PP m23 0 [.val (.ref 1), .val (.int v1)] [] (none, [(9, s)]) (some (.int o), (none, [(9, s)])) := by
  intro v1 o hf
  unfold k_isAccessSize at hf
  refine go_iloadN (pc := 0) d23_0 rfl (go_iconst (pc := 1) d23_1 ci_1 ?_)
  by_cases h1 : v1 = (1 : Int32)
  · replace hf := (if_pos h1).symm.trans hf
    refine go_icY (pc := 2) (pc' := 21) d23_2 (XT.ii_eq_t h1) j_2_19 ?_
    refine go_iconst (pc := 21) d23_21 ci_1 (go_goto (pc := 22) (pc' := 26) d23_22 j_22_4 ?_)
    cases hf
    exact go_zret (pc := 26) rfl d23_26 (show (1 : Int32) = nar .boolean (1 : Int32) by decide)
  · replace hf := (if_neg h1).symm.trans hf
    refine go_icN (pc := 2) d23_2 (XT.ii_eq_f h1) ?_
    refine go_iloadN (pc := 5) d23_5 rfl (go_iconst (pc := 6) d23_6 ci_2 ?_)
    by_cases h2 : v1 = (2 : Int32)
    · replace hf := (if_pos h2).symm.trans hf
      refine go_icY (pc := 7) (pc' := 21) d23_7 (XT.ii_eq_t h2) j_7_14 ?_
      refine go_iconst (pc := 21) d23_21 ci_1 (go_goto (pc := 22) (pc' := 26) d23_22 j_22_4 ?_)
      cases hf
      exact go_zret (pc := 26) rfl d23_26 (show (1 : Int32) = nar .boolean (1 : Int32) by decide)
    · replace hf := (if_neg h2).symm.trans hf
      refine go_icN (pc := 7) d23_7 (XT.ii_eq_f h2) ?_
      refine go_iloadN (pc := 10) d23_10 rfl (go_iconst (pc := 11) d23_11 ci_4 ?_)
      by_cases h3 : v1 = (4 : Int32)
      · replace hf := (if_pos h3).symm.trans hf
        refine go_icY (pc := 12) (pc' := 21) d23_12 (XT.ii_eq_t h3) j_12_9 ?_
        refine go_iconst (pc := 21) d23_21 ci_1 (go_goto (pc := 22) (pc' := 26) d23_22 j_22_4 ?_)
        cases hf
        exact go_zret (pc := 26) rfl d23_26 (show (1 : Int32) = nar .boolean (1 : Int32) by decide)
      · replace hf := (if_neg h3).symm.trans hf
        refine go_icN (pc := 12) d23_12 (XT.ii_eq_f h3) ?_
        refine go_iloadN (pc := 15) d23_15 rfl (go_bipush (pc := 16) d23_16 cb_8 ?_)
        by_cases h4 : v1 = (8 : Int32)
        · replace hf := (if_pos h4).symm.trans hf
          refine go_icN (pc := 18) d23_18 (XT.ii_ne_f h4) ?_
          refine go_iconst (pc := 21) d23_21 ci_1 (go_goto (pc := 22) (pc' := 26) d23_22 j_22_4 ?_)
          cases hf
          exact go_zret (pc := 26) rfl d23_26 (show (1 : Int32) = nar .boolean (1 : Int32) by decide)
        · replace hf := (if_neg h4).symm.trans hf
          refine go_icY (pc := 18) (pc' := 25) d23_18 (XT.ii_ne_t h4) j_18_7 ?_
          refine go_iconst (pc := 25) d23_25 ci_0 ?_
          cases hf
          exact go_zret (pc := 26) rfl d23_26 (show (0 : Int32) = nar .boolean (0 : Int32) by decide)
theorem c_k_isAccessSize (v1 : Int32) (s : S) : Call PP m23 [.ref 1, .int v1] (none, [(9, s)]) (some (.int (k_isAccessSize v1)), (none, [(9, s)])) := call_of_go pl_0 rfl (fun h => nomatch h) (k_isAccessSize_ok v1   _ rfl)
set_option maxRecDepth 65536 in
set_option maxHeartbeats 4000000 in
theorem k_kindForShadow_28_ok  {s : S} : ∀ (v1 : Int32)  (x2 : Slot) (hx2 : k1 x2) (o : Int32), k_kindForShadow_28 v1 = o → Go PP m24 28 [.val (.ref 1), .val (.int v1), x2] [] (none, [(9, s)]) (some (.int o), (none, [(9, s)])) := by
  intro v1 x2 hx2 o hf
  unfold k_kindForShadow_28 at hf
  refine go_iloadN (pc := 28) d24_28 rfl (go_sipush (pc := 29) d24_29 cs_250 ?_)
  by_cases h1 : v1 = (250 : Int32)
  · replace hf := (if_pos h1).symm.trans hf
    refine go_icN (pc := 32) d24_32 (XT.ii_ne_f h1) ?_
    refine go_iconst (pc := 35) d24_35 ci_1 ?_
    cases hf
    exact go_iret (pc := 36) rfl d24_36
  · replace hf := (if_neg h1).symm.trans hf
    refine go_icY (pc := 32) (pc' := 37) d24_32 (XT.ii_ne_t h1) j_32_5 ?_
    refine go_iloadN (pc := 37) d24_37 rfl (go_sipush (pc := 38) d24_38 cs_251 ?_)
    by_cases h2 : v1 = (251 : Int32)
    · replace hf := (if_pos h2).symm.trans hf
      refine go_icN (pc := 41) d24_41 (XT.ii_ne_f h2) ?_
      refine go_iconst (pc := 44) d24_44 ci_2 ?_
      cases hf
      exact go_iret (pc := 45) rfl d24_45
    · replace hf := (if_neg h2).symm.trans hf
      refine go_icY (pc := 41) (pc' := 46) d24_41 (XT.ii_ne_t h2) j_41_5 ?_
      refine go_iloadN (pc := 46) d24_46 rfl (go_sipush (pc := 47) d24_47 cs_253 ?_)
      by_cases h3 : v1 = (253 : Int32)
      · replace hf := (if_pos h3).symm.trans hf
        refine go_icN (pc := 50) d24_50 (XT.ii_ne_f h3) ?_
        refine go_iconst (pc := 53) d24_53 ci_3 ?_
        cases hf
        exact go_iret (pc := 54) rfl d24_54
      · replace hf := (if_neg h3).symm.trans hf
        refine go_icY (pc := 50) (pc' := 55) d24_50 (XT.ii_ne_t h3) j_50_5 ?_
        refine go_iconst (pc := 55) d24_55 ci_4 ?_
        cases hf
        exact go_iret (pc := 56) rfl d24_56
set_option maxRecDepth 65536 in
set_option maxHeartbeats 4000000 in
theorem k_kindForShadow_ok  {s : S} : ∀ (v1 : Int32) (v2 : Int32)   (o : Int32), k_kindForShadow v1 v2 = o → Go PP m24 0 [.val (.ref 1), .val (.int v1), .val (.int v2)] [] (none, [(9, s)]) (some (.int o), (none, [(9, s)])) := by
  intro v1 v2 o hf
  unfold k_kindForShadow at hf
  refine go_iloadN (pc := 0) d24_0 rfl ?_
  by_cases h1 : v1 = 0
  · replace hf := (if_pos h1).symm.trans hf
    refine go_ifN (pc := 1) d24_1 (XT.i0_ne_f h1) ?_
    refine go_iconst (pc := 4) d24_4 ci_0 ?_
    cases hf
    exact go_iret (pc := 5) rfl d24_5
  · replace hf := (if_neg h1).symm.trans hf
    refine go_ifY (pc := 1) (pc' := 6) d24_1 (XT.i0_ne_t h1) j_1_5 ?_
    refine go_iloadN (pc := 6) d24_6 rfl (go_iconst (pc := 7) d24_7 ci_1 ?_)
    by_cases h2 : v1 < (1 : Int32)
    · replace hf := (if_pos h2).symm.trans hf
      refine go_icY (pc := 8) (pc' := 28) d24_8 (XT.ii_lt_t h2) j_8_20 ?_
      exact k_kindForShadow_28_ok v1 (.val (.int v2)) (Or.inr ⟨_, rfl, rfl⟩) _ hf
    · replace hf := (if_neg h2).symm.trans hf
      refine go_icN (pc := 8) d24_8 (XT.ii_lt_f h2) ?_
      refine go_iloadN (pc := 11) d24_11 rfl (go_bipush (pc := 12) d24_12 cb_7 ?_)
      by_cases h3 : (7 : Int32) < v1
      · replace hf := (if_pos h3).symm.trans hf
        refine go_icY (pc := 14) (pc' := 28) d24_14 (XT.ii_gt_t h3) j_14_14 ?_
        exact k_kindForShadow_28_ok v1 (.val (.int v2)) (Or.inr ⟨_, rfl, rfl⟩) _ hf
      · replace hf := (if_neg h3).symm.trans hf
        refine go_icN (pc := 14) d24_14 (XT.ii_gt_f h3) ?_
        refine go_iloadN (pc := 17) d24_17 rfl (go_iloadN (pc := 18) d24_18 rfl ?_)
        by_cases h4 : v2 < v1
        · replace hf := (if_pos h4).symm.trans hf
          refine go_icN (pc := 19) d24_19 (XT.ii_ge_f h4) ?_
          refine go_iconst (pc := 22) d24_22 ci_0 (go_goto (pc := 23) (pc' := 27) d24_23 j_23_4 ?_)
          cases hf
          exact go_iret (pc := 27) rfl d24_27
        · replace hf := (if_neg h4).symm.trans hf
          refine go_icY (pc := 19) (pc' := 26) d24_19 (XT.ii_ge_t h4) j_19_7 ?_
          refine go_iconst (pc := 26) d24_26 ci_2 ?_
          cases hf
          exact go_iret (pc := 27) rfl d24_27
theorem c_k_kindForShadow (v1 : Int32) (v2 : Int32) (s : S) : Call PP m24 [.ref 1, .int v1, .int v2] (none, [(9, s)]) (some (.int (k_kindForShadow v1 v2)), (none, [(9, s)])) := call_of_go pl_0 rfl (fun h => nomatch h) (k_kindForShadow_ok v1 v2   _ rfl)
set_option maxRecDepth 65536 in
set_option maxHeartbeats 4000000 in
theorem k_byteKind_ok  : ∀ (v1 : Int32) (s : S)  (o : Int32), k_byteKind v1 s = some o → Go PP m25 0 [.val (.ref 1), .val (.int v1), .unset, .unset, .unset] [] (none, [(9, s)]) (some (.int o), (none, [(9, s)])) := by
  intro v1 s o hf
  unfold k_byteKind at hf
  refine go_iloadN (pc := 0) d25_0 rfl ?_
  by_cases h1 : v1 < 0
  · replace hf := (if_pos h1).symm.trans hf
    refine go_ifY (pc := 1) (pc' := 12) d25_1 (XT.i0_lt_t h1) j_1_11 ?_
    refine go_iconst (pc := 12) d25_12 ci_5 ?_
    cases hf
    exact go_iret (pc := 13) rfl d25_13
  · replace hf := (if_neg h1).symm.trans hf
    refine go_ifN (pc := 1) d25_1 (XT.i0_lt_f h1) ?_
    refine go_iloadN (pc := 4) d25_4 rfl (go_aloadN (pc := 5) d25_5 rfl (go_getI (pc := 6) fs_52 hm_25 d25_6 ?_))
    by_cases h2 : v1 < (gI s 3)
    · replace hf := (if_pos h2).symm.trans hf
      refine go_icY (pc := 9) (pc' := 14) d25_9 (XT.ii_lt_t h2) j_9_5 ?_
      refine go_iloadN (pc := 14) d25_14 rfl (go_iconst (pc := 15) d25_15 ci_3 (go_ishr (pc := 16) d25_16 (go_istoreN (pc := 17) (L' := [.val (.ref 1), .val (.int v1), .val (.int (v1 >>> ((3 : Int32) &&& 31))), .unset, .unset]) d25_17 rfl (go_iloadN (pc := 18) d25_18 rfl (go_bipush (pc := 19) d25_19 cb_7 (go_iand (pc := 21) d25_21 (go_istoreN (pc := 22) (L' := [.val (.ref 1), .val (.int v1), .val (.int (v1 >>> ((3 : Int32) &&& 31))), .val (.int (v1 &&& (7 : Int32))), .unset]) d25_22 rfl ?_)))))))
      refine go_aloadN (pc := 23) d25_23 rfl (go_getA (pc := 24) fa_13 hm_25 d25_24 rfl (go_iloadN (pc := 27) d25_27 rfl ?_))
      obtain ⟨a28, e3, hf⟩ := Option.bind_eq_some_iff.mp hf
      refine go_iaload (pc := 28) (q := 1) ar_1 rfl e3 d25_28 ?_
      refine go_istore (pc := 29) (L' := [.val (.ref 1), .val (.int v1), .val (.int (v1 >>> ((3 : Int32) &&& 31))), .val (.int (v1 &&& (7 : Int32))), .val (.int a28)]) d25_29 rfl (go_aloadN (pc := 31) d25_31 rfl (go_iload (pc := 32) d25_32 rfl (go_iloadN (pc := 34) d25_34 rfl ?_)))
      refine go_priv (pc := 35) (i := 0) (as := [.int a28, .int (v1 &&& (7 : Int32))]) (rest := []) (w' := (none, [(9, s)])) lk_0_206 pd_24 rfl oid_0 rfl rfl rfl rfl rfl rfl ⟨rfl, rfl, rfl, rfl, rfl⟩ d25_35 (c_k_kindForShadow a28 (v1 &&& (7 : Int32)) s) ?_
      cases hf
      exact go_iret (pc := 38) rfl d25_38
    · replace hf := (if_neg h2).symm.trans hf
      refine go_icN (pc := 9) d25_9 (XT.ii_lt_f h2) ?_
      refine go_iconst (pc := 12) d25_12 ci_5 ?_
      cases hf
      exact go_iret (pc := 13) rfl d25_13
theorem c_k_byteKind (v1 : Int32) (s : S) (o : Int32) (hf : k_byteKind v1 s = some o) : Call PP m25 [.ref 1, .int v1] (none, [(9, s)]) (some (.int o), (none, [(9, s)])) := call_of_go pl_0 rfl (fun h => nomatch h) (k_byteKind_ok v1 s   _ hf)
set_option maxRecDepth 65536 in
set_option maxHeartbeats 4000000 in
theorem k_recordError_ok  : ∀ (v1 : Int32) (s : S)  (o : S), k_recordError v1 s = o → Go PP m26 0 [.val (.ref 1), .val (.int v1)] [] (none, [(9, s)]) (none, (none, [(9, o)])) := by
  intro v1 s o hf
  unfold k_recordError at hf
  refine go_aloadN (pc := 0) d26_0 rfl (go_dupR (pc := 1) d26_1 (go_getI (pc := 2) fs_77 hm_26 d26_2 (go_iconst (pc := 5) d26_5 ci_1 (go_iadd (pc := 6) d26_6 (go_putI (pc := 7) fs_77 hm_26 (wr_11 _) hn_26 d26_7 (go_aloadN (pc := 10) d26_10 rfl (go_iloadN (pc := 11) d26_11 rfl ?_)))))))
  refine go_putI (pc := 12) fs_74 hm_26 (wr_10 _) hn_26 d26_12 ?_
  cases hf
  exact go_ret (pc := 15) rfl d26_15
theorem c_k_recordError (v1 : Int32) (s : S) : Call PP m26 [.ref 1, .int v1] (none, [(9, s)]) (none, (none, [(9, (k_recordError v1 s))])) := call_of_go pl_0 rfl (fun _ => rfl) (k_recordError_ok v1 s   _ rfl)
set_option maxRecDepth 65536 in
set_option maxHeartbeats 4000000 in
theorem k_checkAccess_31_ok  : ∀ (v4 : Int32) (v5 : Int32) (s : S) (x1 : Slot) (x2 : Slot) (x3 : Slot) (hx1 : k1 x1) (hx2 : k1 x2) (hx3 : k1 x3) (o : Int32 × S), k_checkAccess_31 v4 v5 s = some o → Go PP m27 31 [.val (.ref 1), x1, x2, x3, .val (.int v4), .val (.int v5)] [] (none, [(9, s)]) (some (.int o.1), (none, [(9, o.2)])) := by
  intro v4 v5 s x1 x2 x3 hx1 hx2 hx3 o hf
  unfold k_checkAccess_31 at hf
  refine go_aloadN (pc := 31) d27_31 rfl (go_iload (pc := 32) d27_32 rfl ?_)
  refine go_priv (pc := 34) (i := 0) (as := [.int v4]) (rest := []) (w' := (none, [(9, (k_recordError v4 s))])) lk_0_203 pd_26 rfl oid_0 rfl rfl rfl rfl rfl rfl ⟨rfl, rfl, rfl, rfl, rfl⟩ d27_34 (c_k_recordError v4 s) ?_
  refine go_iload (pc := 37) d27_37 rfl ?_
  cases hf
  exact go_iret (pc := 39) rfl d27_39
set_option maxRecDepth 65536 in
set_option maxHeartbeats 4000000 in
theorem k_checkAccess_2_ok  : ∀ (n : Nat) (v1 : Int32) (v2 : Int32) (v3 : Int32) (s : S) (x4 : Slot) (x5 : Slot) (hx4 : k1 x4) (hx5 : k1 x5) (o : Int32 × S), k_checkAccess_2 n v1 v2 v3 s = some o → Go PP m27 2 [.val (.ref 1), .val (.int v1), .val (.int v2), .val (.int v3), x4, x5] [] (none, [(9, s)]) (some (.int o.1), (none, [(9, o.2)])) := by
  intro n
  induction n with
  | zero => intro v1 v2 v3 s x4 x5 hx4 hx5 o hf; exact nomatch hf
  | succ n ih =>
    intro v1 v2 v3 s x4 x5 hx4 hx5 o hf
    unfold k_checkAccess_2 at hf
    refine go_iloadN (pc := 2) d27_2 rfl (go_iloadN (pc := 3) d27_3 rfl ?_)
    by_cases h1 : v3 < v2
    · replace hf := (if_pos h1).symm.trans hf
      refine go_icN (pc := 4) d27_4 (XT.ii_ge_f h1) ?_
      refine go_iloadN (pc := 7) d27_7 rfl (go_bipush (pc := 8) d27_8 cb_8 ?_)
      by_cases h2 : v3 < (8 : Int32)
      · replace hf := (if_pos h2).symm.trans hf
        refine go_icN (pc := 10) d27_10 (XT.ii_ge_f h2) ?_
        refine go_iloadN (pc := 13) d27_13 rfl (go_iloadN (pc := 14) d27_14 rfl (go_iadd (pc := 15) d27_15 (go_istore (pc := 16) (L' := [.val (.ref 1), .val (.int v1), .val (.int v2), .val (.int v3), .val (.int (v1 + v3)), x5]) d27_16 (stx rfl hx4 rfl) (go_aloadN (pc := 18) d27_18 rfl (go_iload (pc := 19) d27_19 rfl ?_)))))
        obtain ⟨r21, e3, hf⟩ := Option.bind_eq_some_iff.mp hf
        refine go_priv (pc := 21) (i := 0) (as := [.int (v1 + v3)]) (rest := []) (w' := (none, [(9, s)])) lk_0_200 pd_25 rfl oid_0 rfl rfl rfl rfl rfl rfl ⟨rfl, rfl, rfl, rfl, rfl⟩ d27_21 (c_k_byteKind (v1 + v3) s _ e3) ?_
        refine go_istore (pc := 24) (L' := [.val (.ref 1), .val (.int v1), .val (.int v2), .val (.int v3), .val (.int (v1 + v3)), .val (.int r21)]) d27_24 (stx rfl hx5 rfl) (go_iload (pc := 26) d27_26 rfl ?_)
        by_cases h4 : r21 = 0
        · replace hf := (if_pos h4).symm.trans hf
          refine go_ifY (pc := 28) (pc' := 40) d27_28 (XT.i0_eq_t h4) j_28_12 ?_
          refine go_iinc (pc := 40) (L' := [.val (.ref 1), .val (.int v1), .val (.int v2), .val (.int (v3 + (1 : Int32))), .val (.int (v1 + v3)), .val (.int r21)]) d27_40 rfl ci_1 rfl (go_goto (pc := 43) (pc' := 2) d27_43 j_43_m41 ?_)
          exact ih v1 v2 (v3 + (1 : Int32)) s (.val (.int (v1 + v3))) (.val (.int r21)) (Or.inr ⟨_, rfl, rfl⟩) (Or.inr ⟨_, rfl, rfl⟩) _ hf
        · replace hf := (if_neg h4).symm.trans hf
          refine go_ifN (pc := 28) d27_28 (XT.i0_eq_f h4) ?_
          exact k_checkAccess_31_ok (v1 + v3) r21 s (.val (.int v1)) (.val (.int v2)) (.val (.int v3)) (Or.inr ⟨_, rfl, rfl⟩) (Or.inr ⟨_, rfl, rfl⟩) (Or.inr ⟨_, rfl, rfl⟩) _ hf
      · replace hf := (if_neg h2).symm.trans hf
        refine go_icY (pc := 10) (pc' := 46) d27_10 (XT.ii_ge_t h2) j_10_36 ?_
        refine go_iconst (pc := 46) d27_46 ci_0 ?_
        cases hf
        exact go_iret (pc := 47) rfl d27_47
    · replace hf := (if_neg h1).symm.trans hf
      refine go_icY (pc := 4) (pc' := 46) d27_4 (XT.ii_ge_t h1) j_4_42 ?_
      refine go_iconst (pc := 46) d27_46 ci_0 ?_
      cases hf
      exact go_iret (pc := 47) rfl d27_47
set_option maxRecDepth 65536 in
set_option maxHeartbeats 4000000 in
theorem k_checkAccess_ok  : ∀ (v1 : Int32) (v2 : Int32) (s : S)  (o : Int32 × S), k_checkAccess v1 v2 s = some o → Go PP m27 0 [.val (.ref 1), .val (.int v1), .val (.int v2), .unset, .unset, .unset] [] (none, [(9, s)]) (some (.int o.1), (none, [(9, o.2)])) := by
  intro v1 v2 s o hf
  unfold k_checkAccess at hf
  refine go_iconst (pc := 0) d27_0 ci_0 (go_istoreN (pc := 1) (L' := [.val (.ref 1), .val (.int v1), .val (.int v2), .val (.int (0 : Int32)), .unset, .unset]) d27_1 rfl ?_)
  exact k_checkAccess_2_ok BIG v1 v2 (0 : Int32) s .unset .unset (Or.inl rfl) (Or.inl rfl) _ hf
theorem c_k_checkAccess (v1 : Int32) (v2 : Int32) (s : S) (o : Int32 × S) (hf : k_checkAccess v1 v2 s = some o) : Call PP m27 [.ref 1, .int v1, .int v2] (none, [(9, s)]) (some (.int o.1), (none, [(9, o.2)])) := call_of_go pl_0 rfl (fun h => nomatch h) (k_checkAccess_ok v1 v2 s   _ hf)
set_option maxRecDepth 65536 in
set_option maxHeartbeats 4000000 in
theorem k_writeLittleEndian_3_ok  : ∀ (n : Nat) (v1 : Int32) (v2 : Int32) (v3 : Int64) (v5 : Int32) (s : S) (x6 : Slot) (hx6 : k1 x6) (o : S), k_writeLittleEndian_3 n v1 v2 v3 v5 s = some o → Go PP m28 3 [.val (.ref 1), .val (.int v1), .val (.int v2), .val (.long v3), .second, .val (.int v5), x6] [] (none, [(9, s)]) (none, (none, [(9, o)])) := by
  intro n
  induction n with
  | zero => intro v1 v2 v3 v5 s x6 hx6 o hf; exact nomatch hf
  | succ n ih =>
    intro v1 v2 v3 v5 s x6 hx6 o hf
    unfold k_writeLittleEndian_3 at hf
    refine go_iload (pc := 3) d28_3 rfl (go_iloadN (pc := 5) d28_5 rfl ?_)
    by_cases h1 : v5 < v2
    · replace hf := (if_pos h1).symm.trans hf
      refine go_icN (pc := 6) d28_6 (XT.ii_ge_f h1) ?_
      refine go_iload (pc := 9) d28_9 rfl (go_bipush (pc := 11) d28_11 cb_8 ?_)
      by_cases h2 : v5 < (8 : Int32)
      · replace hf := (if_pos h2).symm.trans hf
        refine go_icN (pc := 13) d28_13 (XT.ii_ge_f h2) ?_
        refine go_iloadN (pc := 16) d28_16 rfl (go_iload (pc := 17) d28_17 rfl (go_iadd (pc := 19) d28_19 (go_istore (pc := 20) (L' := [.val (.ref 1), .val (.int v1), .val (.int v2), .val (.long v3), .second, .val (.int v5), .val (.int (v1 + v5))]) d28_20 (stx rfl hx6 rfl) (go_iload (pc := 22) d28_22 rfl ?_))))
        by_cases h3 : (v1 + v5) < 0
        · replace hf := (if_pos h3).symm.trans hf
          refine go_ifY (pc := 24) (pc' := 56) d28_24 (XT.i0_lt_t h3) j_24_32 ?_
          refine go_iinc (pc := 56) (L' := [.val (.ref 1), .val (.int v1), .val (.int v2), .val (.long v3), .second, .val (.int (v5 + (1 : Int32))), .val (.int (v1 + v5))]) d28_56 rfl ci_1 rfl (go_goto (pc := 59) (pc' := 3) d28_59 j_59_m56 ?_)
          exact ih v1 v2 v3 (v5 + (1 : Int32)) s (.val (.int (v1 + v5))) (Or.inr ⟨_, rfl, rfl⟩) _ hf
        · replace hf := (if_neg h3).symm.trans hf
          refine go_ifN (pc := 24) d28_24 (XT.i0_lt_f h3) ?_
          refine go_iload (pc := 27) d28_27 rfl (go_aloadN (pc := 29) d28_29 rfl (go_getI (pc := 30) fs_52 hm_28 d28_30 ?_))
          by_cases h4 : (v1 + v5) < (gI s 3)
          · replace hf := (if_pos h4).symm.trans hf
            refine go_icN (pc := 33) d28_33 (XT.ii_ge_f h4) ?_
            refine go_aloadN (pc := 36) d28_36 rfl (go_getA (pc := 37) fa_7 hm_28 d28_37 rfl (go_iload (pc := 40) d28_40 rfl (go_lloadN (pc := 42) d28_42 rfl (go_bipush (pc := 43) d28_43 cb_8 (go_iload (pc := 45) d28_45 rfl (go_imul (pc := 47) d28_47 (go_lushr (pc := 48) d28_48 ?_)))))))
            refine go_ldc2 (pc := 49) (u := (255 : Int64)) d28_49 (List.mem_of_getElem? (i := 168) rfl) (go_land (pc := 52) d28_52 (go_l2i (pc := 53) d28_53 (go_i2b (pc := 54) d28_54 ?_)))
            obtain ⟨a55, e5, hf⟩ := Option.bind_eq_some_iff.mp hf
            refine go_bastore (pc := 55) (q := 0) ar_0 (by decide) rfl hn_28 rfl e5 d28_55 ?_
            refine go_iinc (pc := 56) (L' := [.val (.ref 1), .val (.int v1), .val (.int v2), .val (.long v3), .second, .val (.int (v5 + (1 : Int32))), .val (.int (v1 + v5))]) d28_56 rfl ci_1 rfl (go_goto (pc := 59) (pc' := 3) d28_59 j_59_m56 ?_)
            exact ih v1 v2 v3 (v5 + (1 : Int32)) (sA s 0 a55) (.val (.int (v1 + v5))) (Or.inr ⟨_, rfl, rfl⟩) _ hf
          · replace hf := (if_neg h4).symm.trans hf
            refine go_icY (pc := 33) (pc' := 56) d28_33 (XT.ii_ge_t h4) j_33_23 ?_
            refine go_iinc (pc := 56) (L' := [.val (.ref 1), .val (.int v1), .val (.int v2), .val (.long v3), .second, .val (.int (v5 + (1 : Int32))), .val (.int (v1 + v5))]) d28_56 rfl ci_1 rfl (go_goto (pc := 59) (pc' := 3) d28_59 j_59_m56 ?_)
            exact ih v1 v2 v3 (v5 + (1 : Int32)) s (.val (.int (v1 + v5))) (Or.inr ⟨_, rfl, rfl⟩) _ hf
      · replace hf := (if_neg h2).symm.trans hf
        refine go_icY (pc := 13) (pc' := 62) d28_13 (XT.ii_ge_t h2) j_13_49 ?_
        cases hf
        exact go_ret (pc := 62) rfl d28_62
    · replace hf := (if_neg h1).symm.trans hf
      refine go_icY (pc := 6) (pc' := 62) d28_6 (XT.ii_ge_t h1) j_6_56 ?_
      cases hf
      exact go_ret (pc := 62) rfl d28_62
set_option maxRecDepth 65536 in
set_option maxHeartbeats 4000000 in
theorem k_writeLittleEndian_ok  : ∀ (v1 : Int32) (v2 : Int32) (v3 : Int64) (s : S)  (o : S), k_writeLittleEndian v1 v2 v3 s = some o → Go PP m28 0 [.val (.ref 1), .val (.int v1), .val (.int v2), .val (.long v3), .second, .unset, .unset] [] (none, [(9, s)]) (none, (none, [(9, o)])) := by
  intro v1 v2 v3 s o hf
  unfold k_writeLittleEndian at hf
  refine go_iconst (pc := 0) d28_0 ci_0 (go_istore (pc := 1) (L' := [.val (.ref 1), .val (.int v1), .val (.int v2), .val (.long v3), .second, .val (.int (0 : Int32)), .unset]) d28_1 rfl ?_)
  exact k_writeLittleEndian_3_ok BIG v1 v2 v3 (0 : Int32) s .unset (Or.inl rfl) _ hf
theorem c_k_writeLittleEndian (v1 : Int32) (v2 : Int32) (v3 : Int64) (s : S) (o : S) (hf : k_writeLittleEndian v1 v2 v3 s = some o) : Call PP m28 [.ref 1, .int v1, .int v2, .long v3] (none, [(9, s)]) (none, (none, [(9, o)])) := call_of_go pl_0 rfl (fun _ => rfl) (k_writeLittleEndian_ok v1 v2 v3 s   _ hf)
set_option maxRecDepth 65536 in
set_option maxHeartbeats 4000000 in
theorem k_store_ok  : ∀ (v1 : Int32) (v2 : Int32) (v3 : Int64) (s : S)  (o : Int32 × S), k_store v1 v2 v3 s = some o → Go PP m29 0 [.val (.ref 1), .val (.int v1), .val (.int v2), .val (.long v3), .second, .unset] [] (none, [(9, s)]) (some (.int o.1), (none, [(9, o.2)])) := by
  intro v1 v2 v3 s o hf
  unfold k_store at hf
  refine go_aloadN (pc := 0) d29_0 rfl (go_iloadN (pc := 1) d29_1 rfl ?_)
  refine go_priv (pc := 2) (i := 0) (as := [.int v2]) (rest := []) (w' := (none, [(9, s)])) lk_0_115 pd_23 rfl oid_0 rfl rfl rfl rfl rfl rfl ⟨rfl, rfl, rfl, rfl, rfl⟩ d29_2 (c_k_isAccessSize v2 s) ?_
  by_cases h1 : (k_isAccessSize v2) = 0
  · replace hf := (if_pos h1).symm.trans hf
    refine go_ifN (pc := 5) d29_5 (XT.i0_ne_f h1) ?_
    refine go_bipush (pc := 8) d29_8 cb_6 ?_
    cases hf
    exact go_iret (pc := 10) rfl d29_10
  · replace hf := (if_neg h1).symm.trans hf
    refine go_ifY (pc := 5) (pc' := 11) d29_5 (XT.i0_ne_t h1) j_5_6 ?_
    refine go_aloadN (pc := 11) d29_11 rfl (go_iloadN (pc := 12) d29_12 rfl (go_iloadN (pc := 13) d29_13 rfl ?_))
    obtain ⟨r14, e2, hf⟩ := Option.bind_eq_some_iff.mp hf
    refine go_priv (pc := 14) (i := 0) (as := [.int v1, .int v2]) (rest := []) (w' := (none, [(9, r14.2)])) lk_0_118 pd_27 rfl oid_0 rfl rfl rfl rfl rfl rfl ⟨rfl, rfl, rfl, rfl, rfl⟩ d29_14 (c_k_checkAccess v1 v2 s _ e2) ?_
    refine go_istore (pc := 17) (L' := [.val (.ref 1), .val (.int v1), .val (.int v2), .val (.long v3), .second, .val (.int r14.1)]) d29_17 rfl (go_iload (pc := 19) d29_19 rfl ?_)
    by_cases h3 : r14.1 = 0
    · replace hf := (if_pos h3).symm.trans hf
      refine go_ifY (pc := 21) (pc' := 27) d29_21 (XT.i0_eq_t h3) j_21_6 ?_
      refine go_aloadN (pc := 27) d29_27 rfl (go_iloadN (pc := 28) d29_28 rfl (go_iloadN (pc := 29) d29_29 rfl (go_lloadN (pc := 30) d29_30 rfl ?_)))
      obtain ⟨r31, e4, hf⟩ := Option.bind_eq_some_iff.mp hf
      refine go_priv (pc := 31) (i := 0) (as := [.int v1, .int v2, .long v3]) (rest := []) (w' := (none, [(9, r31)])) lk_0_126 pd_28 rfl oid_0 rfl rfl rfl rfl rfl rfl ⟨rfl, rfl, rfl, rfl, rfl⟩ d29_31 (c_k_writeLittleEndian v1 v2 v3 r14.2 _ e4) ?_
      refine go_iconst (pc := 34) d29_34 ci_0 ?_
      cases hf
      exact go_iret (pc := 35) rfl d29_35
    · replace hf := (if_neg h3).symm.trans hf
      refine go_ifN (pc := 21) d29_21 (XT.i0_eq_f h3) ?_
      refine go_iload (pc := 24) d29_24 rfl ?_
      cases hf
      exact go_iret (pc := 26) rfl d29_26
theorem c_k_store (v1 : Int32) (v2 : Int32) (v3 : Int64) (s : S) (o : Int32 × S) (hf : k_store v1 v2 v3 s = some o) : Call PP m29 [.ref 1, .int v1, .int v2, .long v3] (none, [(9, s)]) (some (.int o.1), (none, [(9, o.2)])) := call_of_go pl_0 rfl (fun h => nomatch h) (k_store_ok v1 v2 v3 s   _ hf)
set_option maxRecDepth 65536 in
set_option maxHeartbeats 4000000 in
theorem k_readLittleEndian_5_ok  : ∀ (n : Nat) (v1 : Int32) (v2 : Int32) (v3 : Int64) (v5 : Int32) (s : S) (x6 : Slot) (x7 : Slot) (x8 : Slot) (hx6 : k1 x6) (hx7 : k2 x7 x8) (o : Int64), k_readLittleEndian_5 n v1 v2 v3 v5 s = some o → Go PP m30 5 [.val (.ref 1), .val (.int v1), .val (.int v2), .val (.long v3), .second, .val (.int v5), x6, x7, x8] [] (none, [(9, s)]) (some (.long o), (none, [(9, s)])) := by
  intro n
  induction n with
  | zero => intro v1 v2 v3 v5 s x6 x7 x8 hx6 hx7 o hf; exact nomatch hf
  | succ n ih =>
    intro v1 v2 v3 v5 s x6 x7 x8 hx6 hx7 o hf
    unfold k_readLittleEndian_5 at hf
    refine go_iload (pc := 5) d30_5 rfl (go_iloadN (pc := 7) d30_7 rfl ?_)
    by_cases h1 : v5 < v2
    · replace hf := (if_pos h1).symm.trans hf
      refine go_icN (pc := 8) d30_8 (XT.ii_ge_f h1) ?_
      refine go_iload (pc := 11) d30_11 rfl (go_bipush (pc := 13) d30_13 cb_8 ?_)
      by_cases h2 : v5 < (8 : Int32)
      · replace hf := (if_pos h2).symm.trans hf
        refine go_icN (pc := 15) d30_15 (XT.ii_ge_f h2) ?_
        refine go_iloadN (pc := 18) d30_18 rfl (go_iload (pc := 19) d30_19 rfl (go_iadd (pc := 21) d30_21 (go_istore (pc := 22) (L' := [.val (.ref 1), .val (.int v1), .val (.int v2), .val (.long v3), .second, .val (.int v5), .val (.int (v1 + v5)), x7, x8]) d30_22 (stx rfl hx6 rfl) (go_iload (pc := 24) d30_24 rfl ?_))))
        by_cases h3 : (v1 + v5) < 0
        · replace hf := (if_pos h3).symm.trans hf
          refine go_ifY (pc := 26) (pc' := 63) d30_26 (XT.i0_lt_t h3) j_26_37 ?_
          refine go_iinc (pc := 63) (L' := [.val (.ref 1), .val (.int v1), .val (.int v2), .val (.long v3), .second, .val (.int (v5 + (1 : Int32))), .val (.int (v1 + v5)), x7, x8]) d30_63 rfl ci_1 rfl (go_goto (pc := 66) (pc' := 5) d30_66 j_66_m61 ?_)
          exact ih v1 v2 v3 (v5 + (1 : Int32)) s (.val (.int (v1 + v5))) x7 x8 (Or.inr ⟨_, rfl, rfl⟩) hx7 _ hf
        · replace hf := (if_neg h3).symm.trans hf
          refine go_ifN (pc := 26) d30_26 (XT.i0_lt_f h3) ?_
          refine go_iload (pc := 29) d30_29 rfl (go_aloadN (pc := 31) d30_31 rfl (go_getI (pc := 32) fs_52 hm_30 d30_32 ?_))
          by_cases h4 : (v1 + v5) < (gI s 3)
          · replace hf := (if_pos h4).symm.trans hf
            refine go_icN (pc := 35) d30_35 (XT.ii_ge_f h4) ?_
            refine go_aloadN (pc := 38) d30_38 rfl (go_getA (pc := 39) fa_7 hm_30 d30_39 rfl (go_iload (pc := 42) d30_42 rfl ?_))
            obtain ⟨a44, e5, hf⟩ := Option.bind_eq_some_iff.mp hf
            refine go_baload (pc := 44) (q := 0) ar_0 (by decide) rfl e5 d30_44 ?_
            refine go_sipush (pc := 45) d30_45 cs_255 (go_iand (pc := 48) d30_48 (go_i2l (pc := 49) d30_49 (go_lstore (pc := 50) (L' := [.val (.ref 1), .val (.int v1), .val (.int v2), .val (.long v3), .second, .val (.int v5), .val (.int (v1 + v5)), .val (.long ((a44 &&& (255 : Int32)).toInt64)), .second]) d30_50 (stx2 rfl rfl hx7) (go_lloadN (pc := 52) d30_52 rfl (go_lload (pc := 53) d30_53 rfl (go_bipush (pc := 55) d30_55 cb_8 (go_iload (pc := 57) d30_57 rfl ?_)))))))
            refine go_imul (pc := 59) d30_59 (go_lshl (pc := 60) d30_60 (go_lor (pc := 61) d30_61 (go_lstoreN (pc := 62) (L' := [.val (.ref 1), .val (.int v1), .val (.int v2), .val (.long (v3 ||| (((a44 &&& (255 : Int32)).toInt64) <<< (((8 : Int32) * v5).toInt64 &&& 63)))), .second, .val (.int v5), .val (.int (v1 + v5)), .val (.long ((a44 &&& (255 : Int32)).toInt64)), .second]) d30_62 rfl (go_iinc (pc := 63) (L' := [.val (.ref 1), .val (.int v1), .val (.int v2), .val (.long (v3 ||| (((a44 &&& (255 : Int32)).toInt64) <<< (((8 : Int32) * v5).toInt64 &&& 63)))), .second, .val (.int (v5 + (1 : Int32))), .val (.int (v1 + v5)), .val (.long ((a44 &&& (255 : Int32)).toInt64)), .second]) d30_63 rfl ci_1 rfl (go_goto (pc := 66) (pc' := 5) d30_66 j_66_m61 ?_)))))
            exact ih v1 v2 (v3 ||| (((a44 &&& (255 : Int32)).toInt64) <<< (((8 : Int32) * v5).toInt64 &&& 63))) (v5 + (1 : Int32)) s (.val (.int (v1 + v5))) (.val (.long ((a44 &&& (255 : Int32)).toInt64))) .second (Or.inr ⟨_, rfl, rfl⟩) (Or.inr ⟨_, rfl, rfl⟩) _ hf
          · replace hf := (if_neg h4).symm.trans hf
            refine go_icY (pc := 35) (pc' := 63) d30_35 (XT.ii_ge_t h4) j_35_28 ?_
            refine go_iinc (pc := 63) (L' := [.val (.ref 1), .val (.int v1), .val (.int v2), .val (.long v3), .second, .val (.int (v5 + (1 : Int32))), .val (.int (v1 + v5)), x7, x8]) d30_63 rfl ci_1 rfl (go_goto (pc := 66) (pc' := 5) d30_66 j_66_m61 ?_)
            exact ih v1 v2 v3 (v5 + (1 : Int32)) s (.val (.int (v1 + v5))) x7 x8 (Or.inr ⟨_, rfl, rfl⟩) hx7 _ hf
      · replace hf := (if_neg h2).symm.trans hf
        refine go_icY (pc := 15) (pc' := 69) d30_15 (XT.ii_ge_t h2) j_15_54 ?_
        refine go_lloadN (pc := 69) d30_69 rfl ?_
        cases hf
        exact go_lret (pc := 70) rfl d30_70
    · replace hf := (if_neg h1).symm.trans hf
      refine go_icY (pc := 8) (pc' := 69) d30_8 (XT.ii_ge_t h1) j_8_61 ?_
      refine go_lloadN (pc := 69) d30_69 rfl ?_
      cases hf
      exact go_lret (pc := 70) rfl d30_70
set_option maxRecDepth 65536 in
set_option maxHeartbeats 4000000 in
theorem k_readLittleEndian_ok  : ∀ (v1 : Int32) (v2 : Int32) (s : S)  (o : Int64), k_readLittleEndian v1 v2 s = some o → Go PP m30 0 [.val (.ref 1), .val (.int v1), .val (.int v2), .unset, .unset, .unset, .unset, .unset, .unset] [] (none, [(9, s)]) (some (.long o), (none, [(9, s)])) := by
  intro v1 v2 s o hf
  unfold k_readLittleEndian at hf
  refine go_lconst (pc := 0) d30_0 cl_0 (go_lstoreN (pc := 1) (L' := [.val (.ref 1), .val (.int v1), .val (.int v2), .val (.long (0 : Int64)), .second, .unset, .unset, .unset, .unset]) d30_1 rfl (go_iconst (pc := 2) d30_2 ci_0 (go_istore (pc := 3) (L' := [.val (.ref 1), .val (.int v1), .val (.int v2), .val (.long (0 : Int64)), .second, .val (.int (0 : Int32)), .unset, .unset, .unset]) d30_3 rfl ?_)))
  exact k_readLittleEndian_5_ok BIG v1 v2 (0 : Int64) (0 : Int32) s .unset .unset .unset (Or.inl rfl) (Or.inl ⟨rfl, rfl⟩) _ hf
theorem c_k_readLittleEndian (v1 : Int32) (v2 : Int32) (s : S) (o : Int64) (hf : k_readLittleEndian v1 v2 s = some o) : Call PP m30 [.ref 1, .int v1, .int v2] (none, [(9, s)]) (some (.long o), (none, [(9, s)])) := call_of_go pl_0 rfl (fun h => nomatch h) (k_readLittleEndian_ok v1 v2 s   _ hf)
set_option maxRecDepth 65536 in
set_option maxHeartbeats 4000000 in
theorem k_load_ok  : ∀ (v1 : Int32) (v2 : Int32) (s : S)  (o : Int32 × S), k_load v1 v2 s = some o → Go PP m31 0 [.val (.ref 1), .val (.int v1), .val (.int v2), .unset] [] (none, [(9, s)]) (some (.int o.1), (none, [(9, o.2)])) := by
  intro v1 v2 s o hf
  unfold k_load at hf
  refine go_aloadN (pc := 0) d31_0 rfl (go_iloadN (pc := 1) d31_1 rfl ?_)
  refine go_priv (pc := 2) (i := 0) (as := [.int v2]) (rest := []) (w' := (none, [(9, s)])) lk_0_115 pd_23 rfl oid_0 rfl rfl rfl rfl rfl rfl ⟨rfl, rfl, rfl, rfl, rfl⟩ d31_2 (c_k_isAccessSize v2 s) ?_
  by_cases h1 : (k_isAccessSize v2) = 0
  · replace hf := (if_pos h1).symm.trans hf
    refine go_ifN (pc := 5) d31_5 (XT.i0_ne_f h1) ?_
    refine go_bipush (pc := 8) d31_8 cb_6 ?_
    cases hf
    exact go_iret (pc := 10) rfl d31_10
  · replace hf := (if_neg h1).symm.trans hf
    refine go_ifY (pc := 5) (pc' := 11) d31_5 (XT.i0_ne_t h1) j_5_6 ?_
    refine go_aloadN (pc := 11) d31_11 rfl (go_iloadN (pc := 12) d31_12 rfl (go_iloadN (pc := 13) d31_13 rfl ?_))
    obtain ⟨r14, e2, hf⟩ := Option.bind_eq_some_iff.mp hf
    refine go_priv (pc := 14) (i := 0) (as := [.int v1, .int v2]) (rest := []) (w' := (none, [(9, r14.2)])) lk_0_118 pd_27 rfl oid_0 rfl rfl rfl rfl rfl rfl ⟨rfl, rfl, rfl, rfl, rfl⟩ d31_14 (c_k_checkAccess v1 v2 s _ e2) ?_
    refine go_istoreN (pc := 17) (L' := [.val (.ref 1), .val (.int v1), .val (.int v2), .val (.int r14.1)]) d31_17 rfl (go_iloadN (pc := 18) d31_18 rfl ?_)
    by_cases h3 : r14.1 = 0
    · replace hf := (if_pos h3).symm.trans hf
      refine go_ifY (pc := 19) (pc' := 24) d31_19 (XT.i0_eq_t h3) j_19_5 ?_
      refine go_aloadN (pc := 24) d31_24 rfl (go_aloadN (pc := 25) d31_25 rfl (go_iloadN (pc := 26) d31_26 rfl (go_iloadN (pc := 27) d31_27 rfl ?_)))
      obtain ⟨r28, e4, hf⟩ := Option.bind_eq_some_iff.mp hf
      refine go_priv (pc := 28) (i := 0) (as := [.int v1, .int v2]) (rest := [.ref 1]) (w' := (none, [(9, r14.2)])) lk_0_122 pd_30 rfl oid_0 rfl rfl rfl rfl rfl rfl ⟨rfl, rfl, rfl, rfl, rfl⟩ d31_28 (c_k_readLittleEndian v1 v2 r14.2 _ e4) ?_
      refine go_putJ (pc := 31) fs_70 hm_31 (wr_9 _) hn_31 d31_31 (go_iconst (pc := 34) d31_34 ci_0 ?_)
      cases hf
      exact go_iret (pc := 35) rfl d31_35
    · replace hf := (if_neg h3).symm.trans hf
      refine go_ifN (pc := 19) d31_19 (XT.i0_eq_f h3) ?_
      refine go_iloadN (pc := 22) d31_22 rfl ?_
      cases hf
      exact go_iret (pc := 23) rfl d31_23
theorem c_k_load (v1 : Int32) (v2 : Int32) (s : S) (o : Int32 × S) (hf : k_load v1 v2 s = some o) : Call PP m31 [.ref 1, .int v1, .int v2] (none, [(9, s)]) (some (.int o.1), (none, [(9, o.2)])) := call_of_go pl_0 rfl (fun h => nomatch h) (k_load_ok v1 v2 s   _ hf)
set_option maxRecDepth 65536 in
set_option maxHeartbeats 4000000 in
theorem k_lastValue_ok  : ∀  (s : S)  (o : Int64), k_lastValue s = o → Go PP m32 0 [.val (.ref 1)] [] (none, [(9, s)]) (some (.long o), (none, [(9, s)])) := by
  intro s o hf
  unfold k_lastValue at hf
  refine go_aloadN (pc := 0) d32_0 rfl (go_getJ (pc := 1) fs_70 hm_32 d32_1 ?_)
  cases hf
  exact go_lret (pc := 4) rfl d32_4
theorem c_k_lastValue (s : S) : Call PP m32 [.ref 1] (none, [(9, s)]) (some (.long (k_lastValue s)), (none, [(9, s)])) := call_of_go pl_0 rfl (fun h => nomatch h) (k_lastValue_ok s   _ rfl)
set_option maxRecDepth 65536 in
set_option maxHeartbeats 4000000 in
theorem k_lastBadAddress_ok  : ∀  (s : S)  (o : Int32), k_lastBadAddress s = o → Go PP m33 0 [.val (.ref 1)] [] (none, [(9, s)]) (some (.int o), (none, [(9, s)])) := by
  intro s o hf
  unfold k_lastBadAddress at hf
  refine go_aloadN (pc := 0) d33_0 rfl (go_getI (pc := 1) fs_74 hm_33 d33_1 ?_)
  cases hf
  exact go_iret (pc := 4) rfl d33_4
theorem c_k_lastBadAddress (s : S) : Call PP m33 [.ref 1] (none, [(9, s)]) (some (.int (k_lastBadAddress s)), (none, [(9, s)])) := call_of_go pl_0 rfl (fun h => nomatch h) (k_lastBadAddress_ok s   _ rfl)
set_option maxRecDepth 65536 in
set_option maxHeartbeats 4000000 in
theorem k_slotForUserAddress_ok  : ∀ (v1 : Int32) (s : S)  (o : Int32), k_slotForUserAddress v1 s = some o → Go PP m34 0 [.val (.ref 1), .val (.int v1), .unset, .unset] [] (none, [(9, s)]) (some (.int o), (none, [(9, s)])) := by
  intro v1 s o hf
  unfold k_slotForUserAddress at hf
  refine go_iloadN (pc := 0) d34_0 rfl ?_
  by_cases h1 : v1 < 0
  · replace hf := (if_pos h1).symm.trans hf
    refine go_ifY (pc := 1) (pc' := 12) d34_1 (XT.i0_lt_t h1) j_1_11 ?_
    refine go_iconst (pc := 12) d34_12 ci_m1 ?_
    cases hf
    exact go_iret (pc := 13) rfl d34_13
  · replace hf := (if_neg h1).symm.trans hf
    refine go_ifN (pc := 1) d34_1 (XT.i0_lt_f h1) ?_
    refine go_iloadN (pc := 4) d34_4 rfl (go_aloadN (pc := 5) d34_5 rfl (go_getI (pc := 6) fs_52 hm_34 d34_6 ?_))
    by_cases h2 : v1 < (gI s 3)
    · replace hf := (if_pos h2).symm.trans hf
      refine go_icY (pc := 9) (pc' := 14) d34_9 (XT.ii_lt_t h2) j_9_5 ?_
      refine go_iloadN (pc := 14) d34_14 rfl (go_bipush (pc := 15) d34_15 cb_7 (go_iand (pc := 17) d34_17 ?_))
      by_cases h3 : (v1 &&& (7 : Int32)) = 0
      · replace hf := (if_pos h3).symm.trans hf
        refine go_ifY (pc := 18) (pc' := 23) d34_18 (XT.i0_eq_t h3) j_18_5 ?_
        refine go_iloadN (pc := 23) d34_23 rfl (go_iconst (pc := 24) d34_24 ci_3 (go_ishr (pc := 25) d34_25 (go_istoreN (pc := 26) (L' := [.val (.ref 1), .val (.int v1), .val (.int (v1 >>> ((3 : Int32) &&& 31))), .unset]) d34_26 rfl (go_aloadN (pc := 27) d34_27 rfl (go_getA (pc := 28) fa_17 hm_34 d34_28 rfl (go_iloadN (pc := 31) d34_31 rfl ?_))))))
        obtain ⟨a32, e4, hf⟩ := Option.bind_eq_some_iff.mp hf
        refine go_iaload (pc := 32) (q := 2) ar_2 rfl e4 d34_32 ?_
        refine go_istoreN (pc := 33) (L' := [.val (.ref 1), .val (.int v1), .val (.int (v1 >>> ((3 : Int32) &&& 31))), .val (.int a32)]) d34_33 rfl (go_aloadN (pc := 34) d34_34 rfl (go_iloadN (pc := 35) d34_35 rfl ?_))
        refine go_priv (pc := 36) (i := 0) (as := [.int a32]) (rest := []) (w' := (none, [(9, s)])) lk_0_139 pd_13 rfl oid_0 rfl rfl rfl rfl rfl rfl ⟨rfl, rfl, rfl, rfl, rfl⟩ d34_36 (c_k_validSlot a32 s) ?_
        by_cases h5 : (k_validSlot a32) = 0
        · replace hf := (if_pos h5).symm.trans hf
          refine go_ifN (pc := 39) d34_39 (XT.i0_ne_f h5) ?_
          refine go_iconst (pc := 42) d34_42 ci_m1 ?_
          cases hf
          exact go_iret (pc := 43) rfl d34_43
        · replace hf := (if_neg h5).symm.trans hf
          refine go_ifY (pc := 39) (pc' := 44) d34_39 (XT.i0_ne_t h5) j_39_5 ?_
          refine go_aloadN (pc := 44) d34_44 rfl (go_getA (pc := 45) fa_26 hm_34 d34_45 rfl (go_iloadN (pc := 48) d34_48 rfl ?_))
          obtain ⟨a49, e6, hf⟩ := Option.bind_eq_some_iff.mp hf
          refine go_baload (pc := 49) (q := 5) ar_5 (by decide) rfl e6 d34_49 ?_
          by_cases h7 : a49 = 0
          · replace hf := (if_pos h7).symm.trans hf
            refine go_ifN (pc := 50) d34_50 (XT.i0_ne_f h7) ?_
            refine go_iconst (pc := 53) d34_53 ci_m1 ?_
            cases hf
            exact go_iret (pc := 54) rfl d34_54
          · replace hf := (if_neg h7).symm.trans hf
            refine go_ifY (pc := 50) (pc' := 55) d34_50 (XT.i0_ne_t h7) j_50_5 ?_
            refine go_aloadN (pc := 55) d34_55 rfl (go_iloadN (pc := 56) d34_56 rfl ?_)
            obtain ⟨r57, e8, hf⟩ := Option.bind_eq_some_iff.mp hf
            refine go_priv (pc := 57) (i := 0) (as := [.int a32]) (rest := []) (w' := (none, [(9, s)])) lk_0_151 pd_14 rfl oid_0 rfl rfl rfl rfl rfl rfl ⟨rfl, rfl, rfl, rfl, rfl⟩ d34_57 (c_k_userGranule a32 s _ e8) ?_
            refine go_iloadN (pc := 60) d34_60 rfl ?_
            by_cases h9 : r57 = (v1 >>> ((3 : Int32) &&& 31))
            · replace hf := (if_pos h9).symm.trans hf
              refine go_icY (pc := 61) (pc' := 66) d34_61 (XT.ii_eq_t h9) j_61_5 ?_
              refine go_iloadN (pc := 66) d34_66 rfl ?_
              cases hf
              exact go_iret (pc := 67) rfl d34_67
            · replace hf := (if_neg h9).symm.trans hf
              refine go_icN (pc := 61) d34_61 (XT.ii_eq_f h9) ?_
              refine go_iconst (pc := 64) d34_64 ci_m1 ?_
              cases hf
              exact go_iret (pc := 65) rfl d34_65
      · replace hf := (if_neg h3).symm.trans hf
        refine go_ifN (pc := 18) d34_18 (XT.i0_eq_f h3) ?_
        refine go_iconst (pc := 21) d34_21 ci_m1 ?_
        cases hf
        exact go_iret (pc := 22) rfl d34_22
    · replace hf := (if_neg h2).symm.trans hf
      refine go_icN (pc := 9) d34_9 (XT.ii_lt_f h2) ?_
      refine go_iconst (pc := 12) d34_12 ci_m1 ?_
      cases hf
      exact go_iret (pc := 13) rfl d34_13
theorem c_k_slotForUserAddress (v1 : Int32) (s : S) (o : Int32) (hf : k_slotForUserAddress v1 s = some o) : Call PP m34 [.ref 1, .int v1] (none, [(9, s)]) (some (.int o), (none, [(9, s)])) := call_of_go pl_0 rfl (fun h => nomatch h) (k_slotForUserAddress_ok v1 s   _ hf)
set_option maxRecDepth 65536 in
set_option maxHeartbeats 4000000 in
theorem k_isLive_ok  : ∀ (v1 : Int32) (s : S)  (o : Int32), k_isLive v1 s = some o → Go PP m35 0 [.val (.ref 1), .val (.int v1)] [] (none, [(9, s)]) (some (.int o), (none, [(9, s)])) := by
  intro v1 s o hf
  unfold k_isLive at hf
  refine go_aloadN (pc := 0) d35_0 rfl (go_iloadN (pc := 1) d35_1 rfl ?_)
  refine go_priv (pc := 2) (i := 0) (as := [.int v1]) (rest := []) (w' := (none, [(9, s)])) lk_0_139 pd_13 rfl oid_0 rfl rfl rfl rfl rfl rfl ⟨rfl, rfl, rfl, rfl, rfl⟩ d35_2 (c_k_validSlot v1 s) ?_
  by_cases h1 : (k_validSlot v1) = 0
  · replace hf := (if_pos h1).symm.trans hf
    refine go_ifY (pc := 5) (pc' := 22) d35_5 (XT.i0_eq_t h1) j_5_17 ?_
    refine go_iconst (pc := 22) d35_22 ci_0 ?_
    cases hf
    exact go_zret (pc := 23) rfl d35_23 (show (0 : Int32) = nar .boolean (0 : Int32) by decide)
  · replace hf := (if_neg h1).symm.trans hf
    refine go_ifN (pc := 5) d35_5 (XT.i0_eq_f h1) ?_
    refine go_aloadN (pc := 8) d35_8 rfl (go_getA (pc := 9) fa_26 hm_35 d35_9 rfl (go_iloadN (pc := 12) d35_12 rfl ?_))
    obtain ⟨a13, e2, hf⟩ := Option.bind_eq_some_iff.mp hf
    refine go_baload (pc := 13) (q := 5) ar_5 (by decide) rfl e2 d35_13 ?_
    refine go_iconst (pc := 14) d35_14 ci_1 ?_
    by_cases h3 : a13 = (1 : Int32)
    · replace hf := (if_pos h3).symm.trans hf
      refine go_icN (pc := 15) d35_15 (XT.ii_ne_f h3) ?_
      refine go_iconst (pc := 18) d35_18 ci_1 (go_goto (pc := 19) (pc' := 23) d35_19 j_19_4 ?_)
      cases hf
      exact go_zret (pc := 23) rfl d35_23 (show (1 : Int32) = nar .boolean (1 : Int32) by decide)
    · replace hf := (if_neg h3).symm.trans hf
      refine go_icY (pc := 15) (pc' := 22) d35_15 (XT.ii_ne_t h3) j_15_7 ?_
      refine go_iconst (pc := 22) d35_22 ci_0 ?_
      cases hf
      exact go_zret (pc := 23) rfl d35_23 (show (0 : Int32) = nar .boolean (0 : Int32) by decide)
theorem c_k_isLive (v1 : Int32) (s : S) (o : Int32) (hf : k_isLive v1 s = some o) : Call PP m35 [.ref 1, .int v1] (none, [(9, s)]) (some (.int o), (none, [(9, s)])) := call_of_go pl_0 rfl (fun h => nomatch h) (k_isLive_ok v1 s   _ hf)
set_option maxRecDepth 65536 in
set_option maxHeartbeats 4000000 in
theorem k_userSize_ok  : ∀ (v1 : Int32) (s : S)  (o : Int32), k_userSize v1 s = some o → Go PP m36 0 [.val (.ref 1), .val (.int v1), .unset] [] (none, [(9, s)]) (some (.int o), (none, [(9, s)])) := by
  intro v1 s o hf
  unfold k_userSize at hf
  refine go_aloadN (pc := 0) d36_0 rfl (go_iloadN (pc := 1) d36_1 rfl ?_)
  obtain ⟨r2, e1, hf⟩ := Option.bind_eq_some_iff.mp hf
  refine go_priv (pc := 2) (i := 0) (as := [.int v1]) (rest := []) (w' := (none, [(9, s)])) lk_0_98 pd_34 rfl oid_0 rfl rfl rfl rfl rfl rfl ⟨rfl, rfl, rfl, rfl, rfl⟩ d36_2 (c_k_slotForUserAddress v1 s _ e1) ?_
  refine go_istoreN (pc := 5) (L' := [.val (.ref 1), .val (.int v1), .val (.int r2)]) d36_5 rfl (go_aloadN (pc := 6) d36_6 rfl (go_iloadN (pc := 7) d36_7 rfl ?_))
  obtain ⟨r8, e2, hf⟩ := Option.bind_eq_some_iff.mp hf
  refine go_priv (pc := 8) (i := 0) (as := [.int r2]) (rest := []) (w' := (none, [(9, s)])) lk_0_105 pd_35 rfl oid_0 rfl rfl rfl rfl rfl rfl ⟨rfl, rfl, rfl, rfl, rfl⟩ d36_8 (c_k_isLive r2 s _ e2) ?_
  by_cases h3 : r8 = 0
  · replace hf := (if_pos h3).symm.trans hf
    refine go_ifN (pc := 11) d36_11 (XT.i0_ne_f h3) ?_
    refine go_iconst (pc := 14) d36_14 ci_m1 ?_
    cases hf
    exact go_iret (pc := 15) rfl d36_15
  · replace hf := (if_neg h3).symm.trans hf
    refine go_ifY (pc := 11) (pc' := 16) d36_11 (XT.i0_ne_t h3) j_11_5 ?_
    refine go_aloadN (pc := 16) d36_16 rfl (go_getA (pc := 17) fa_23 hm_36 d36_17 rfl (go_iloadN (pc := 20) d36_20 rfl ?_))
    obtain ⟨a21, e4, hf⟩ := Option.bind_eq_some_iff.mp hf
    refine go_iaload (pc := 21) (q := 4) ar_4 rfl e4 d36_21 ?_
    cases hf
    exact go_iret (pc := 22) rfl d36_22
theorem c_k_userSize (v1 : Int32) (s : S) (o : Int32) (hf : k_userSize v1 s = some o) : Call PP m36 [.ref 1, .int v1] (none, [(9, s)]) (some (.int o), (none, [(9, s)])) := call_of_go pl_0 rfl (fun h => nomatch h) (k_userSize_ok v1 s   _ hf)
set_option maxRecDepth 65536 in
set_option maxHeartbeats 4000000 in
theorem k_isQuarantined_ok  : ∀ (v1 : Int32) (s : S)  (o : Int32), k_isQuarantined v1 s = some o → Go PP m37 0 [.val (.ref 1), .val (.int v1)] [] (none, [(9, s)]) (some (.int o), (none, [(9, s)])) := by
  intro v1 s o hf
  unfold k_isQuarantined at hf
  refine go_aloadN (pc := 0) d37_0 rfl (go_iloadN (pc := 1) d37_1 rfl ?_)
  refine go_priv (pc := 2) (i := 0) (as := [.int v1]) (rest := []) (w' := (none, [(9, s)])) lk_0_139 pd_13 rfl oid_0 rfl rfl rfl rfl rfl rfl ⟨rfl, rfl, rfl, rfl, rfl⟩ d37_2 (c_k_validSlot v1 s) ?_
  by_cases h1 : (k_validSlot v1) = 0
  · replace hf := (if_pos h1).symm.trans hf
    refine go_ifY (pc := 5) (pc' := 22) d37_5 (XT.i0_eq_t h1) j_5_17 ?_
    refine go_iconst (pc := 22) d37_22 ci_0 ?_
    cases hf
    exact go_zret (pc := 23) rfl d37_23 (show (0 : Int32) = nar .boolean (0 : Int32) by decide)
  · replace hf := (if_neg h1).symm.trans hf
    refine go_ifN (pc := 5) d37_5 (XT.i0_eq_f h1) ?_
    refine go_aloadN (pc := 8) d37_8 rfl (go_getA (pc := 9) fa_26 hm_37 d37_9 rfl (go_iloadN (pc := 12) d37_12 rfl ?_))
    obtain ⟨a13, e2, hf⟩ := Option.bind_eq_some_iff.mp hf
    refine go_baload (pc := 13) (q := 5) ar_5 (by decide) rfl e2 d37_13 ?_
    refine go_iconst (pc := 14) d37_14 ci_2 ?_
    by_cases h3 : a13 = (2 : Int32)
    · replace hf := (if_pos h3).symm.trans hf
      refine go_icN (pc := 15) d37_15 (XT.ii_ne_f h3) ?_
      refine go_iconst (pc := 18) d37_18 ci_1 (go_goto (pc := 19) (pc' := 23) d37_19 j_19_4 ?_)
      cases hf
      exact go_zret (pc := 23) rfl d37_23 (show (1 : Int32) = nar .boolean (1 : Int32) by decide)
    · replace hf := (if_neg h3).symm.trans hf
      refine go_icY (pc := 15) (pc' := 22) d37_15 (XT.ii_ne_t h3) j_15_7 ?_
      refine go_iconst (pc := 22) d37_22 ci_0 ?_
      cases hf
      exact go_zret (pc := 23) rfl d37_23 (show (0 : Int32) = nar .boolean (0 : Int32) by decide)
theorem c_k_isQuarantined (v1 : Int32) (s : S) (o : Int32) (hf : k_isQuarantined v1 s = some o) : Call PP m37 [.ref 1, .int v1] (none, [(9, s)]) (some (.int o), (none, [(9, s)])) := call_of_go pl_0 rfl (fun h => nomatch h) (k_isQuarantined_ok v1 s   _ hf)
set_option maxRecDepth 65536 in
set_option maxHeartbeats 4000000 in
theorem k_paintQuarantined_ok  : ∀ (v1 : Int32) (s : S)  (o : S), k_paintQuarantined v1 s = some o → Go PP m38 0 [.val (.ref 1), .val (.int v1), .unset, .unset, .unset] [] (none, [(9, s)]) (none, (none, [(9, o)])) := by
  intro v1 s o hf
  unfold k_paintQuarantined at hf
  refine go_aloadN (pc := 0) d38_0 rfl (go_iloadN (pc := 1) d38_1 rfl ?_)
  obtain ⟨r2, e1, hf⟩ := Option.bind_eq_some_iff.mp hf
  refine go_priv (pc := 2) (i := 0) (as := [.int v1]) (rest := []) (w' := (none, [(9, s)])) lk_0_151 pd_14 rfl oid_0 rfl rfl rfl rfl rfl rfl ⟨rfl, rfl, rfl, rfl, rfl⟩ d38_2 (c_k_userGranule v1 s _ e1) ?_
  refine go_istoreN (pc := 5) (L' := [.val (.ref 1), .val (.int v1), .val (.int r2), .unset, .unset]) d38_5 rfl (go_aloadN (pc := 6) d38_6 rfl (go_getA (pc := 7) fa_23 hm_38 d38_7 rfl (go_iloadN (pc := 10) d38_10 rfl ?_)))
  obtain ⟨a11, e2, hf⟩ := Option.bind_eq_some_iff.mp hf
  refine go_iaload (pc := 11) (q := 4) ar_4 rfl e2 d38_11 ?_
  refine go_istoreN (pc := 12) (L' := [.val (.ref 1), .val (.int v1), .val (.int r2), .val (.int a11), .unset]) d38_12 rfl (go_aloadN (pc := 13) d38_13 rfl (go_iloadN (pc := 14) d38_14 rfl ?_))
  obtain ⟨r15, e3, hf⟩ := Option.bind_eq_some_iff.mp hf
  refine go_priv (pc := 15) (i := 0) (as := [.int a11]) (rest := []) (w' := (none, [(9, s)])) lk_0_148 pd_6 rfl oid_0 rfl rfl rfl rfl rfl rfl ⟨rfl, rfl, rfl, rfl, rfl⟩ d38_15 (c_k_userGranulesFor a11 s _ e3) ?_
  refine go_istore (pc := 18) (L' := [.val (.ref 1), .val (.int v1), .val (.int r2), .val (.int a11), .val (.int r15)]) d38_18 rfl (go_aloadN (pc := 20) d38_20 rfl (go_iloadN (pc := 21) d38_21 rfl (go_iload (pc := 22) d38_22 rfl (go_sipush (pc := 24) d38_24 cs_253 ?_))))
  obtain ⟨r27, e4, hf⟩ := Option.bind_eq_some_iff.mp hf
  refine go_priv (pc := 27) (i := 0) (as := [.int r2, .int r15, .int (253 : Int32)]) (rest := []) (w' := (none, [(9, r27)])) lk_0_157 pd_16 rfl oid_0 rfl rfl rfl rfl rfl rfl ⟨rfl, rfl, rfl, rfl, rfl⟩ d38_27 (c_k_paintRange r2 r15 (253 : Int32) s _ e4) ?_
  cases hf
  exact go_ret (pc := 30) rfl d38_30
theorem c_k_paintQuarantined (v1 : Int32) (s : S) (o : S) (hf : k_paintQuarantined v1 s = some o) : Call PP m38 [.ref 1, .int v1] (none, [(9, s)]) (none, (none, [(9, o)])) := call_of_go pl_0 rfl (fun _ => rfl) (k_paintQuarantined_ok v1 s   _ hf)
set_option maxRecDepth 65536 in
set_option maxHeartbeats 4000000 in
theorem k_weightOf_ok  : ∀ (v1 : Int32) (s : S)  (o : Int32), k_weightOf v1 s = some o → Go PP m39 0 [.val (.ref 1), .val (.int v1), .unset] [] (none, [(9, s)]) (some (.int o), (none, [(9, s)])) := by
  intro v1 s o hf
  unfold k_weightOf at hf
  refine go_aloadN (pc := 0) d39_0 rfl (go_iloadN (pc := 1) d39_1 rfl ?_)
  refine go_priv (pc := 2) (i := 0) (as := [.int v1]) (rest := []) (w' := (none, [(9, s)])) lk_0_139 pd_13 rfl oid_0 rfl rfl rfl rfl rfl rfl ⟨rfl, rfl, rfl, rfl, rfl⟩ d39_2 (c_k_validSlot v1 s) ?_
  by_cases h1 : (k_validSlot v1) = 0
  · replace hf := (if_pos h1).symm.trans hf
    refine go_ifN (pc := 5) d39_5 (XT.i0_ne_f h1) ?_
    refine go_iconst (pc := 8) d39_8 ci_0 ?_
    cases hf
    exact go_iret (pc := 9) rfl d39_9
  · replace hf := (if_neg h1).symm.trans hf
    refine go_ifY (pc := 5) (pc' := 10) d39_5 (XT.i0_ne_t h1) j_5_5 ?_
    refine go_aloadN (pc := 10) d39_10 rfl (go_getA (pc := 11) fa_23 hm_39 d39_11 rfl (go_iloadN (pc := 14) d39_14 rfl ?_))
    obtain ⟨a15, e2, hf⟩ := Option.bind_eq_some_iff.mp hf
    refine go_iaload (pc := 15) (q := 4) ar_4 rfl e2 d39_15 ?_
    refine go_istoreN (pc := 16) (L' := [.val (.ref 1), .val (.int v1), .val (.int a15)]) d39_16 rfl (go_bipush (pc := 17) d39_17 cb_8 (go_aloadN (pc := 19) d39_19 rfl (go_iloadN (pc := 20) d39_20 rfl ?_)))
    obtain ⟨r21, e3, hf⟩ := Option.bind_eq_some_iff.mp hf
    refine go_priv (pc := 21) (i := 0) (as := [.int a15]) (rest := [.int (8 : Int32)]) (w' := (none, [(9, s)])) lk_0_80 pd_7 rfl oid_0 rfl rfl rfl rfl rfl rfl ⟨rfl, rfl, rfl, rfl, rfl⟩ d39_21 (c_k_spanFor a15 s _ e3) ?_
    refine go_imul (pc := 24) d39_24 ?_
    cases hf
    exact go_iret (pc := 25) rfl d39_25
theorem c_k_weightOf (v1 : Int32) (s : S) (o : Int32) (hf : k_weightOf v1 s = some o) : Call PP m39 [.ref 1, .int v1] (none, [(9, s)]) (some (.int o), (none, [(9, s)])) := call_of_go pl_0 rfl (fun h => nomatch h) (k_weightOf_ok v1 s   _ hf)
set_option maxRecDepth 65536 in
set_option maxHeartbeats 4000000 in
theorem k_enqueue_ok  : ∀ (v1 : Int32) (s : S)  (o : S), k_enqueue v1 s = some o → Go PP m40 0 [.val (.ref 1), .val (.int v1), .unset] [] (none, [(9, s)]) (none, (none, [(9, o)])) := by
  intro v1 s o hf
  unfold k_enqueue at hf
  refine go_aloadN (pc := 0) d40_0 rfl (go_getI (pc := 1) fs_130 hm_40 d40_1 (go_bipush (pc := 4) d40_4 cb_32 ?_))
  by_cases h1 : (gI s 5) < (32 : Int32)
  · replace hf := (if_pos h1).symm.trans hf
    refine go_icY (pc := 6) (pc' := 13) d40_6 (XT.ii_lt_t h1) j_6_7 ?_
    refine go_aloadN (pc := 13) d40_13 rfl (go_getI (pc := 14) fs_136 hm_40 d40_14 (go_aloadN (pc := 17) d40_17 rfl (go_getI (pc := 18) fs_130 hm_40 d40_18 (go_iadd (pc := 21) d40_21 (go_bipush (pc := 22) d40_22 cb_31 (go_iand (pc := 24) d40_24 (go_istoreN (pc := 25) (L' := [.val (.ref 1), .val (.int v1), .val (.int (((gI s 4) + (gI s 5)) &&& (31 : Int32)))]) d40_25 rfl ?_)))))))
    refine go_aloadN (pc := 26) d40_26 rfl (go_getA (pc := 27) fa_29 hm_40 d40_27 rfl (go_iloadN (pc := 30) d40_30 rfl (go_iloadN (pc := 31) d40_31 rfl ?_)))
    obtain ⟨a32, e2, hf⟩ := Option.bind_eq_some_iff.mp hf
    refine go_iastore (pc := 32) (q := 6) ar_6 rfl hn_40 e2 d40_32 ?_
    refine go_aloadN (pc := 33) d40_33 rfl (go_dupR (pc := 34) d40_34 (go_getI (pc := 35) fs_130 hm_40 d40_35 (go_iconst (pc := 38) d40_38 ci_1 (go_iadd (pc := 39) d40_39 (go_putI (pc := 40) fs_130 hm_40 (wr_5 _) hn_40 d40_40 (go_aloadN (pc := 43) d40_43 rfl (go_dupR (pc := 44) d40_44 ?_)))))))
    refine go_getI (pc := 45) fs_133 hm_40 d40_45 (go_aloadN (pc := 48) d40_48 rfl (go_iloadN (pc := 49) d40_49 rfl ?_))
    obtain ⟨r50, e3, hf⟩ := Option.bind_eq_some_iff.mp hf
    refine go_priv (pc := 50) (i := 0) (as := [.int v1]) (rest := [.int (gI s 6), .ref 1]) (w' := (none, [(9, sI (sA s 6 a32) 5 ((gI s 5) + (1 : Int32)))])) lk_0_182 pd_39 rfl oid_0 rfl rfl rfl rfl rfl rfl ⟨rfl, rfl, rfl, rfl, rfl⟩ d40_50 (c_k_weightOf v1 (sI (sA s 6 a32) 5 ((gI s 5) + (1 : Int32))) _ e3) ?_
    refine go_iadd (pc := 53) d40_53 (go_putI (pc := 54) fs_133 hm_40 (wr_6 _) hn_40 d40_54 ?_)
    cases hf
    exact go_ret (pc := 57) rfl d40_57
  · replace hf := (if_neg h1).symm.trans hf
    refine go_icN (pc := 6) d40_6 (XT.ii_lt_f h1) ?_
    refine go_aloadN (pc := 9) d40_9 rfl ?_
    exact nomatch hf
theorem c_k_enqueue (v1 : Int32) (s : S) (o : S) (hf : k_enqueue v1 s = some o) : Call PP m40 [.ref 1, .int v1] (none, [(9, s)]) (none, (none, [(9, o)])) := call_of_go pl_0 rfl (fun _ => rfl) (k_enqueue_ok v1 s   _ hf)
set_option maxRecDepth 65536 in
set_option maxHeartbeats 4000000 in
theorem k_quarantineChunk_ok  : ∀ (v1 : Int32) (s : S)  (o : S), k_quarantineChunk v1 s = some o → Go PP m41 0 [.val (.ref 1), .val (.int v1)] [] (none, [(9, s)]) (none, (none, [(9, o)])) := by
  intro v1 s o hf
  unfold k_quarantineChunk at hf
  refine go_aloadN (pc := 0) d41_0 rfl (go_getA (pc := 1) fa_26 hm_41 d41_1 rfl (go_iloadN (pc := 4) d41_4 rfl (go_iconst (pc := 5) d41_5 ci_2 ?_)))
  obtain ⟨a6, e1, hf⟩ := Option.bind_eq_some_iff.mp hf
  refine go_bastore (pc := 6) (q := 5) ar_5 (by decide) rfl hn_41 rfl e1 d41_6 ?_
  refine go_aloadN (pc := 7) d41_7 rfl (go_iloadN (pc := 8) d41_8 rfl ?_)
  obtain ⟨r9, e2, hf⟩ := Option.bind_eq_some_iff.mp hf
  refine go_priv (pc := 9) (i := 0) (as := [.int v1]) (rest := []) (w' := (none, [(9, r9)])) lk_0_170 pd_38 rfl oid_0 rfl rfl rfl rfl rfl rfl ⟨rfl, rfl, rfl, rfl, rfl⟩ d41_9 (c_k_paintQuarantined v1 (sA s 5 a6) _ e2) ?_
  refine go_aloadN (pc := 12) d41_12 rfl (go_dupR (pc := 13) d41_13 (go_getI (pc := 14) fs_67 hm_41 d41_14 (go_iconst (pc := 17) d41_17 ci_1 (go_isub (pc := 18) d41_18 (go_putI (pc := 19) fs_67 hm_41 (wr_8 _) hn_41 d41_19 (go_aloadN (pc := 22) d41_22 rfl (go_iloadN (pc := 23) d41_23 rfl ?_)))))))
  obtain ⟨r24, e3, hf⟩ := Option.bind_eq_some_iff.mp hf
  refine go_priv (pc := 24) (i := 0) (as := [.int v1]) (rest := []) (w' := (none, [(9, r24)])) lk_0_173 pd_40 rfl oid_0 rfl rfl rfl rfl rfl rfl ⟨rfl, rfl, rfl, rfl, rfl⟩ d41_24 (c_k_enqueue v1 (sI r9 8 ((gI r9 8) - (1 : Int32))) _ e3) ?_
  cases hf
  exact go_ret (pc := 27) rfl d41_27
theorem c_k_quarantineChunk (v1 : Int32) (s : S) (o : S) (hf : k_quarantineChunk v1 s = some o) : Call PP m41 [.ref 1, .int v1] (none, [(9, s)]) (none, (none, [(9, o)])) := call_of_go pl_0 rfl (fun _ => rfl) (k_quarantineChunk_ok v1 s   _ hf)
set_option maxRecDepth 65536 in
set_option maxHeartbeats 4000000 in
theorem k_trimToBudget_ok  : ∀  (s : S)  (o : Unit), k_trimToBudget s = some o → Go PP m42 0 [.val (.ref 1), .unset] [] (none, [(9, s)]) (none, (none, [(9, s)])) := by
  intro s o hf
  unfold k_trimToBudget at hf
  refine go_iconst (pc := 0) d42_0 ci_0 (go_istoreN (pc := 1) (L' := [.val (.ref 1), .val (.int (0 : Int32))]) d42_1 rfl (go_iloadN (pc := 2) d42_2 rfl (go_bipush (pc := 3) d42_3 cb_64 ?_)))
  by_cases h1 : (0 : Int32) < (64 : Int32)
  · replace hf := (if_pos h1).symm.trans hf
    refine go_icN (pc := 5) d42_5 (XT.ii_ge_f h1) ?_
    refine go_aloadN (pc := 8) d42_8 rfl (go_getI (pc := 9) fs_133 hm_42 d42_9 (go_aloadN (pc := 12) d42_12 rfl (go_getI (pc := 13) fs_49 hm_42 d42_13 ?_)))
    by_cases h2 : (gI s 2) < (gI s 6)
    · replace hf := (if_pos h2).symm.trans hf
      refine go_icN (pc := 16) d42_16 (XT.ii_le_f h2) ?_
      refine go_aloadN (pc := 19) d42_19 rfl (go_getI (pc := 20) fs_130 hm_42 d42_20 ?_)
      by_cases h3 : 0 < (gI s 5)
      · replace hf := (if_pos h3).symm.trans hf
        refine go_ifN (pc := 23) d42_23 (XT.i0_le_f h3) ?_
        refine go_aloadN (pc := 26) d42_26 rfl ?_
        exact nomatch hf
      · replace hf := (if_neg h3).symm.trans hf
        refine go_ifY (pc := 23) (pc' := 36) d42_23 (XT.i0_le_t h3) j_23_13 ?_
        cases hf
        exact go_ret (pc := 36) rfl d42_36
    · replace hf := (if_neg h2).symm.trans hf
      refine go_icY (pc := 16) (pc' := 36) d42_16 (XT.ii_le_t h2) j_16_20 ?_
      cases hf
      exact go_ret (pc := 36) rfl d42_36
  · replace hf := (if_neg h1).symm.trans hf
    refine go_icY (pc := 5) (pc' := 36) d42_5 (XT.ii_ge_t h1) j_5_31 ?_
    cases hf
    exact go_ret (pc := 36) rfl d42_36
theorem c_k_trimToBudget (s : S) (o : Unit) (hf : k_trimToBudget s = some o) : Call PP m42 [.ref 1] (none, [(9, s)]) (none, (none, [(9, s)])) := call_of_go pl_0 rfl (fun _ => rfl) (k_trimToBudget_ok s   _ hf)
set_option maxRecDepth 65536 in
set_option maxHeartbeats 4000000 in
theorem k_free_ok  : ∀ (v1 : Int32) (s : S)  (o : Int32 × S), k_free v1 s = some o → Go PP m43 0 [.val (.ref 1), .val (.int v1), .unset] [] (none, [(9, s)]) (some (.int o.1), (none, [(9, o.2)])) := by
  intro v1 s o hf
  unfold k_free at hf
  refine go_aloadN (pc := 0) d43_0 rfl (go_iloadN (pc := 1) d43_1 rfl ?_)
  obtain ⟨r2, e1, hf⟩ := Option.bind_eq_some_iff.mp hf
  refine go_priv (pc := 2) (i := 0) (as := [.int v1]) (rest := []) (w' := (none, [(9, s)])) lk_0_98 pd_34 rfl oid_0 rfl rfl rfl rfl rfl rfl ⟨rfl, rfl, rfl, rfl, rfl⟩ d43_2 (c_k_slotForUserAddress v1 s _ e1) ?_
  refine go_istoreN (pc := 5) (L' := [.val (.ref 1), .val (.int v1), .val (.int r2)]) d43_5 rfl (go_iloadN (pc := 6) d43_6 rfl ?_)
  by_cases h2 : r2 < 0
  · replace hf := (if_pos h2).symm.trans hf
    refine go_ifN (pc := 7) d43_7 (XT.i0_ge_f h2) ?_
    refine go_iconst (pc := 10) d43_10 ci_2 ?_
    cases hf
    exact go_iret (pc := 11) rfl d43_11
  · replace hf := (if_neg h2).symm.trans hf
    refine go_ifY (pc := 7) (pc' := 12) d43_7 (XT.i0_ge_t h2) j_7_5 ?_
    refine go_aloadN (pc := 12) d43_12 rfl (go_iloadN (pc := 13) d43_13 rfl ?_)
    obtain ⟨r14, e3, hf⟩ := Option.bind_eq_some_iff.mp hf
    refine go_priv (pc := 14) (i := 0) (as := [.int r2]) (rest := []) (w' := (none, [(9, s)])) lk_0_101 pd_37 rfl oid_0 rfl rfl rfl rfl rfl rfl ⟨rfl, rfl, rfl, rfl, rfl⟩ d43_14 (c_k_isQuarantined r2 s _ e3) ?_
    by_cases h4 : r14 = 0
    · replace hf := (if_pos h4).symm.trans hf
      refine go_ifY (pc := 17) (pc' := 22) d43_17 (XT.i0_eq_t h4) j_17_5 ?_
      refine go_aloadN (pc := 22) d43_22 rfl (go_iloadN (pc := 23) d43_23 rfl ?_)
      obtain ⟨r24, e5, hf⟩ := Option.bind_eq_some_iff.mp hf
      refine go_priv (pc := 24) (i := 0) (as := [.int r2]) (rest := []) (w' := (none, [(9, s)])) lk_0_105 pd_35 rfl oid_0 rfl rfl rfl rfl rfl rfl ⟨rfl, rfl, rfl, rfl, rfl⟩ d43_24 (c_k_isLive r2 s _ e5) ?_
      by_cases h6 : r24 = 0
      · replace hf := (if_pos h6).symm.trans hf
        refine go_ifN (pc := 27) d43_27 (XT.i0_ne_f h6) ?_
        refine go_iconst (pc := 30) d43_30 ci_2 ?_
        cases hf
        exact go_iret (pc := 31) rfl d43_31
      · replace hf := (if_neg h6).symm.trans hf
        refine go_ifY (pc := 27) (pc' := 32) d43_27 (XT.i0_ne_t h6) j_27_5 ?_
        refine go_aloadN (pc := 32) d43_32 rfl (go_iloadN (pc := 33) d43_33 rfl ?_)
        obtain ⟨r34, e7, hf⟩ := Option.bind_eq_some_iff.mp hf
        refine go_priv (pc := 34) (i := 0) (as := [.int r2]) (rest := []) (w' := (none, [(9, r34)])) lk_0_108 pd_41 rfl oid_0 rfl rfl rfl rfl rfl rfl ⟨rfl, rfl, rfl, rfl, rfl⟩ d43_34 (c_k_quarantineChunk r2 s _ e7) ?_
        refine go_aloadN (pc := 37) d43_37 rfl ?_
        obtain ⟨r38, e8, hf⟩ := Option.bind_eq_some_iff.mp hf
        refine go_priv (pc := 38) (i := 0) (as := []) (rest := []) (w' := (none, [(9, r34)])) lk_0_112 pd_42 rfl oid_0 rfl rfl rfl rfl rfl rfl ⟨rfl, rfl, rfl, rfl, rfl⟩ d43_38 (c_k_trimToBudget r34 _ e8) ?_
        refine go_iconst (pc := 41) d43_41 ci_0 ?_
        cases hf
        exact go_iret (pc := 42) rfl d43_42
    · replace hf := (if_neg h4).symm.trans hf
      refine go_ifN (pc := 17) d43_17 (XT.i0_eq_f h4) ?_
      refine go_iconst (pc := 20) d43_20 ci_1 ?_
      cases hf
      exact go_iret (pc := 21) rfl d43_21
theorem c_k_free (v1 : Int32) (s : S) (o : Int32 × S) (hf : k_free v1 s = some o) : Call PP m43 [.ref 1, .int v1] (none, [(9, s)]) (some (.int o.1), (none, [(9, o.2)])) := call_of_go pl_0 rfl (fun h => nomatch h) (k_free_ok v1 s   _ hf)
set_option maxRecDepth 65536 in
set_option maxHeartbeats 4000000 in
theorem k_quarantineBytes_ok  : ∀  (s : S)  (o : Int32), k_quarantineBytes s = o → Go PP m44 0 [.val (.ref 1)] [] (none, [(9, s)]) (some (.int o), (none, [(9, s)])) := by
  intro s o hf
  unfold k_quarantineBytes at hf
  refine go_aloadN (pc := 0) d44_0 rfl (go_getI (pc := 1) fs_133 hm_44 d44_1 ?_)
  cases hf
  exact go_iret (pc := 4) rfl d44_4
theorem c_k_quarantineBytes (s : S) : Call PP m44 [.ref 1] (none, [(9, s)]) (some (.int (k_quarantineBytes s)), (none, [(9, s)])) := call_of_go pl_0 rfl (fun h => nomatch h) (k_quarantineBytes_ok s   _ rfl)
set_option maxRecDepth 65536 in
set_option maxHeartbeats 4000000 in
theorem k_shadow_ok  : ∀ (v1 : Int32) (s : S)  (o : Int32), k_shadow v1 s = some o → Go PP m45 0 [.val (.ref 1), .val (.int v1)] [] (none, [(9, s)]) (some (.int o), (none, [(9, s)])) := by
  intro v1 s o hf
  unfold k_shadow at hf
  refine go_iloadN (pc := 0) d45_0 rfl ?_
  by_cases h1 : v1 < 0
  · replace hf := (if_pos h1).symm.trans hf
    refine go_ifY (pc := 1) (pc' := 12) d45_1 (XT.i0_lt_t h1) j_1_11 ?_
    refine go_iconst (pc := 12) d45_12 ci_m1 ?_
    cases hf
    exact go_iret (pc := 13) rfl d45_13
  · replace hf := (if_neg h1).symm.trans hf
    refine go_ifN (pc := 1) d45_1 (XT.i0_lt_f h1) ?_
    refine go_iloadN (pc := 4) d45_4 rfl (go_aloadN (pc := 5) d45_5 rfl (go_getI (pc := 6) fs_42 hm_45 d45_6 ?_))
    by_cases h2 : v1 < (gI s 0)
    · replace hf := (if_pos h2).symm.trans hf
      refine go_icY (pc := 9) (pc' := 14) d45_9 (XT.ii_lt_t h2) j_9_5 ?_
      refine go_aloadN (pc := 14) d45_14 rfl (go_getA (pc := 15) fa_13 hm_45 d45_15 rfl (go_iloadN (pc := 18) d45_18 rfl ?_))
      obtain ⟨a19, e3, hf⟩ := Option.bind_eq_some_iff.mp hf
      refine go_iaload (pc := 19) (q := 1) ar_1 rfl e3 d45_19 ?_
      cases hf
      exact go_iret (pc := 20) rfl d45_20
    · replace hf := (if_neg h2).symm.trans hf
      refine go_icN (pc := 9) d45_9 (XT.ii_lt_f h2) ?_
      refine go_iconst (pc := 12) d45_12 ci_m1 ?_
      cases hf
      exact go_iret (pc := 13) rfl d45_13
theorem c_k_shadow (v1 : Int32) (s : S) (o : Int32) (hf : k_shadow v1 s = some o) : Call PP m45 [.ref 1, .int v1] (none, [(9, s)]) (some (.int o), (none, [(9, s)])) := call_of_go pl_0 rfl (fun h => nomatch h) (k_shadow_ok v1 s   _ hf)
set_option maxRecDepth 65536 in
set_option maxHeartbeats 4000000 in
theorem k_errorCount_ok  : ∀  (s : S)  (o : Int32), k_errorCount s = o → Go PP m46 0 [.val (.ref 1)] [] (none, [(9, s)]) (some (.int o), (none, [(9, s)])) := by
  intro s o hf
  unfold k_errorCount at hf
  refine go_aloadN (pc := 0) d46_0 rfl (go_getI (pc := 1) fs_77 hm_46 d46_1 ?_)
  cases hf
  exact go_iret (pc := 4) rfl d46_4
theorem c_k_errorCount (s : S) : Call PP m46 [.ref 1] (none, [(9, s)]) (some (.int (k_errorCount s)), (none, [(9, s)])) := call_of_go pl_0 rfl (fun h => nomatch h) (k_errorCount_ok s   _ rfl)
set_option maxRecDepth 65536 in
set_option maxHeartbeats 4000000 in
theorem law_484_ok  : ∀ (p0 : Int32) (t0 : S) (x0 : Slot) (x1 : Slot) (x2 : Slot) (x4 : Slot) (x5 : Slot) (x6 : Slot) (x7 : Slot) (x8 : Slot) (x9 : Slot) (x10 : Slot) (x11 : Slot) (x12 : Slot) (x13 : Slot) (x14 : Slot) (x15 : Slot) (x16 : Slot) (x17 : Slot) (x18 : Slot) (x19 : Slot) (x20 : Slot) (x21 : Slot) (x22 : Slot) (x23 : Slot) (x24 : Slot) (x25 : Slot) (x26 : Slot) (hx0 : k1 x0) (hx1 : k2 x1 x2) (hx4 : k1 x4) (hx5 : k1 x5) (hx6 : k1 x6) (hx7 : k1 x7) (hx8 : k1 x8) (hx9 : k1 x9) (hx10 : k2 x10 x11) (hx12 : k2 x12 x13) (hx14 : k1 x14) (hx15 : k1 x15) (hx16 : k1 x16) (hx17 : k1 x17) (hx18 : k1 x18) (hx19 : k1 x19) (hx20 : k1 x20) (hx21 : k1 x21) (hx22 : k1 x22) (hx23 : k1 x23) (hx24 : k1 x24) (hx25 : k1 x25) (hx26 : k1 x26) (o : Int32 × S), law_484 p0 t0 = some o → Go PP m47 484 [x0, x1, x2, .val (.ref 1), x4, x5, x6, x7, x8, x9, x10, x11, x12, x13, x14, x15, x16, x17, x18, x19, x20, x21, x22, x23, x24, x25, x26] [.int p0] (none, [(9, t0)]) (some (.int o.1), (none, [(9, o.2)])) := by
  intro p0 t0 x0 x1 x2 x4 x5 x6 x7 x8 x9 x10 x11 x12 x13 x14 x15 x16 x17 x18 x19 x20 x21 x22 x23 x24 x25 x26 hx0 hx1 hx4 hx5 hx6 hx7 hx8 hx9 hx10 hx12 hx14 hx15 hx16 hx17 hx18 hx19 hx20 hx21 hx22 hx23 hx24 hx25 hx26 o hf
  unfold law_484 at hf
  refine go_istore (pc := 484) (L' := [x0, x1, x2, .val (.ref 1), x4, .val (.int p0), x6, x7, x8, x9, x10, x11, x12, x13, x14, x15, x16, x17, x18, x19, x20, x21, x22, x23, x24, x25, x26]) d47_484 (stx rfl hx5 rfl) (go_iload (pc := 486) d47_486 rfl ?_)
  cases hf
  exact go_zret (pc := 488) rfl d47_488 rfl
set_option maxRecDepth 65536 in
set_option maxHeartbeats 4000000 in
theorem law_401_ok  : ∀ (v4 : Int32) (v7 : Int32) (p0 : Int32) (t0 : S) (x0 : Slot) (x1 : Slot) (x2 : Slot) (x5 : Slot) (x6 : Slot) (x8 : Slot) (x9 : Slot) (x10 : Slot) (x11 : Slot) (x12 : Slot) (x13 : Slot) (x14 : Slot) (x15 : Slot) (x16 : Slot) (x17 : Slot) (x18 : Slot) (x19 : Slot) (x20 : Slot) (x21 : Slot) (hx0 : k1 x0) (hx1 : k2 x1 x2) (hx5 : k1 x5) (hx6 : k1 x6) (hx8 : k1 x8) (hx9 : k1 x9) (hx10 : k2 x10 x11) (hx12 : k2 x12 x13) (hx14 : k1 x14) (hx15 : k1 x15) (hx16 : k1 x16) (hx17 : k1 x17) (hx18 : k1 x18) (hx19 : k1 x19) (hx20 : k1 x20) (hx21 : k1 x21) (o : Int32 × S), law_401 v4 v7 p0 t0 = some o → Go PP m47 401 [x0, x1, x2, .val (.ref 1), .val (.int v4), x5, x6, .val (.int v7), x8, x9, x10, x11, x12, x13, x14, x15, x16, x17, x18, x19, x20, x21, .unset, .unset, .unset, .unset, .unset] [.int p0] (none, [(9, t0)]) (some (.int o.1), (none, [(9, o.2)])) := by
  intro v4 v7 p0 t0 x0 x1 x2 x5 x6 x8 x9 x10 x11 x12 x13 x14 x15 x16 x17 x18 x19 x20 x21 hx0 hx1 hx5 hx6 hx8 hx9 hx10 hx12 hx14 hx15 hx16 hx17 hx18 hx19 hx20 hx21 o hf
  unfold law_401 at hf
  refine go_istore (pc := 401) (L' := [x0, x1, x2, .val (.ref 1), .val (.int v4), .val (.int p0), x6, .val (.int v7), x8, x9, x10, x11, x12, x13, x14, x15, x16, x17, x18, x19, x20, x21, .unset, .unset, .unset, .unset, .unset]) d47_401 (stx rfl hx5 rfl) (go_aloadN (pc := 403) d47_403 rfl (go_iload (pc := 404) d47_404 rfl (go_iconst (pc := 406) d47_406 ci_1 ?_)))
  obtain ⟨r407, e1, hf⟩ := Option.bind_eq_some_iff.mp hf
  refine go_virt (pc := 407) (i := 0) (as := [.int v4, .int (1 : Int32)]) (rest := []) (w' := (none, [(9, r407.2)])) lk_1_24 pd_31 rfl oid_0 rfl rfl rfl rfl rfl rfl ⟨rfl, rfl, rfl, rfl, rfl⟩ d47_407 (c_k_load v4 (1 : Int32) t0 _ e1) ?_
  refine go_istore (pc := 410) (L' := [x0, x1, x2, .val (.ref 1), .val (.int v4), .val (.int p0), x6, .val (.int v7), x8, x9, x10, x11, x12, x13, x14, x15, x16, x17, x18, x19, x20, x21, .val (.int r407.1), .unset, .unset, .unset, .unset]) d47_410 rfl (go_aloadN (pc := 412) d47_412 rfl (go_iload (pc := 413) d47_413 rfl ?_))
  obtain ⟨r415, e2, hf⟩ := Option.bind_eq_some_iff.mp hf
  refine go_virt (pc := 415) (i := 0) (as := [.int v4]) (rest := []) (w' := (none, [(9, r415.2)])) lk_1_40 pd_43 rfl oid_0 rfl rfl rfl rfl rfl rfl ⟨rfl, rfl, rfl, rfl, rfl⟩ d47_415 (c_k_free v4 r407.2 _ e2) ?_
  refine go_istore (pc := 418) (L' := [x0, x1, x2, .val (.ref 1), .val (.int v4), .val (.int p0), x6, .val (.int v7), x8, x9, x10, x11, x12, x13, x14, x15, x16, x17, x18, x19, x20, x21, .val (.int r407.1), .val (.int r415.1), .unset, .unset, .unset]) d47_418 rfl (go_aloadN (pc := 420) d47_420 rfl ?_)
  refine go_virt (pc := 421) (i := 0) (as := []) (rest := []) (w' := (none, [(9, r415.2)])) lk_1_49 pd_46 rfl oid_0 rfl rfl rfl rfl rfl rfl ⟨rfl, rfl, rfl, rfl, rfl⟩ d47_421 (c_k_errorCount r415.2) ?_
  refine go_istore (pc := 424) (L' := [x0, x1, x2, .val (.ref 1), .val (.int v4), .val (.int p0), x6, .val (.int v7), x8, x9, x10, x11, x12, x13, x14, x15, x16, x17, x18, x19, x20, x21, .val (.int r407.1), .val (.int r415.1), .val (.int (k_errorCount r415.2)), .unset, .unset]) d47_424 rfl (go_aloadN (pc := 426) d47_426 rfl ?_)
  refine go_virt (pc := 427) (i := 0) (as := []) (rest := []) (w' := (none, [(9, r415.2)])) lk_1_34 pd_33 rfl oid_0 rfl rfl rfl rfl rfl rfl ⟨rfl, rfl, rfl, rfl, rfl⟩ d47_427 (c_k_lastBadAddress r415.2) ?_
  refine go_istore (pc := 430) (L' := [x0, x1, x2, .val (.ref 1), .val (.int v4), .val (.int p0), x6, .val (.int v7), x8, x9, x10, x11, x12, x13, x14, x15, x16, x17, x18, x19, x20, x21, .val (.int r407.1), .val (.int r415.1), .val (.int (k_errorCount r415.2)), .val (.int (k_lastBadAddress r415.2)), .unset]) d47_430 rfl (go_aloadN (pc := 432) d47_432 rfl ?_)
  refine go_virt (pc := 433) (i := 0) (as := []) (rest := []) (w' := (none, [(9, r415.2)])) lk_1_16 pd_22 rfl oid_0 rfl rfl rfl rfl rfl rfl ⟨rfl, rfl, rfl, rfl, rfl⟩ d47_433 (c_k_liveCount r415.2) ?_
  refine go_istore (pc := 436) (L' := [x0, x1, x2, .val (.ref 1), .val (.int v4), .val (.int p0), x6, .val (.int v7), x8, x9, x10, x11, x12, x13, x14, x15, x16, x17, x18, x19, x20, x21, .val (.int r407.1), .val (.int r415.1), .val (.int (k_errorCount r415.2)), .val (.int (k_lastBadAddress r415.2)), .val (.int (k_liveCount r415.2))]) d47_436 rfl (go_iload (pc := 438) d47_438 rfl ?_)
  by_cases h3 : p0 = 0
  · refine go_ifY (pc := 440) (pc' := 483) d47_440 (XT.i0_eq_t h3) j_440_43 ?_
    refine go_iconst (pc := 483) d47_483 ci_0 ?_
    exact law_484_ok (0 : Int32) r415.2 x0 x1 x2 (.val (.int v4)) (.val (.int p0)) x6 (.val (.int v7)) x8 x9 x10 x11 x12 x13 x14 x15 x16 x17 x18 x19 x20 x21 (.val (.int r407.1)) (.val (.int r415.1)) (.val (.int (k_errorCount r415.2))) (.val (.int (k_lastBadAddress r415.2))) (.val (.int (k_liveCount r415.2))) hx0 hx1 (Or.inr ⟨_, rfl, rfl⟩) (Or.inr ⟨_, rfl, rfl⟩) hx6 (Or.inr ⟨_, rfl, rfl⟩) hx8 hx9 hx10 hx12 hx14 hx15 hx16 hx17 hx18 hx19 hx20 hx21 (Or.inr ⟨_, rfl, rfl⟩) (Or.inr ⟨_, rfl, rfl⟩) (Or.inr ⟨_, rfl, rfl⟩) (Or.inr ⟨_, rfl, rfl⟩) (Or.inr ⟨_, rfl, rfl⟩) _ (by simpa only [if_pos h3] using hf)
  · refine go_ifN (pc := 440) d47_440 (XT.i0_eq_f h3) ?_
    refine go_iload (pc := 443) d47_443 rfl (go_iconst (pc := 445) d47_445 ci_3 ?_)
    by_cases h4 : r407.1 = (3 : Int32)
    · refine go_icN (pc := 446) d47_446 (XT.ii_ne_f h4) ?_
      refine go_iload (pc := 449) d47_449 rfl (go_iconst (pc := 451) d47_451 ci_1 ?_)
      by_cases h5 : r415.1 = (1 : Int32)
      · refine go_icN (pc := 452) d47_452 (XT.ii_ne_f h5) ?_
        refine go_iload (pc := 455) d47_455 rfl (go_bipush (pc := 457) d47_457 cb_8 (go_iload (pc := 459) d47_459 rfl (go_isub (pc := 461) d47_461 (go_iconst (pc := 462) d47_462 ci_3 (go_iadd (pc := 463) d47_463 ?_)))))
        by_cases h6 : (k_errorCount r415.2) = (((8 : Int32) - v7) + (3 : Int32))
        · refine go_icN (pc := 464) d47_464 (XT.ii_ne_f h6) ?_
          refine go_iload (pc := 467) d47_467 rfl (go_iload (pc := 469) d47_469 rfl ?_)
          by_cases h7 : (k_lastBadAddress r415.2) = v4
          · refine go_icN (pc := 471) d47_471 (XT.ii_ne_f h7) ?_
            refine go_iload (pc := 474) d47_474 rfl ?_
            by_cases h8 : (k_liveCount r415.2) = 0
            · refine go_ifN (pc := 476) d47_476 (XT.i0_ne_f h8) ?_
              refine go_iconst (pc := 479) d47_479 ci_1 (go_goto (pc := 480) (pc' := 484) d47_480 j_480_4 ?_)
              exact law_484_ok (1 : Int32) r415.2 x0 x1 x2 (.val (.int v4)) (.val (.int p0)) x6 (.val (.int v7)) x8 x9 x10 x11 x12 x13 x14 x15 x16 x17 x18 x19 x20 x21 (.val (.int r407.1)) (.val (.int r415.1)) (.val (.int (k_errorCount r415.2))) (.val (.int (k_lastBadAddress r415.2))) (.val (.int (k_liveCount r415.2))) hx0 hx1 (Or.inr ⟨_, rfl, rfl⟩) (Or.inr ⟨_, rfl, rfl⟩) hx6 (Or.inr ⟨_, rfl, rfl⟩) hx8 hx9 hx10 hx12 hx14 hx15 hx16 hx17 hx18 hx19 hx20 hx21 (Or.inr ⟨_, rfl, rfl⟩) (Or.inr ⟨_, rfl, rfl⟩) (Or.inr ⟨_, rfl, rfl⟩) (Or.inr ⟨_, rfl, rfl⟩) (Or.inr ⟨_, rfl, rfl⟩) _ (by simpa only [if_neg h3, if_pos h4, if_pos h5, if_pos h6, if_pos h7, if_pos h8] using hf)
            · refine go_ifY (pc := 476) (pc' := 483) d47_476 (XT.i0_ne_t h8) j_476_7 ?_
              refine go_iconst (pc := 483) d47_483 ci_0 ?_
              exact law_484_ok (0 : Int32) r415.2 x0 x1 x2 (.val (.int v4)) (.val (.int p0)) x6 (.val (.int v7)) x8 x9 x10 x11 x12 x13 x14 x15 x16 x17 x18 x19 x20 x21 (.val (.int r407.1)) (.val (.int r415.1)) (.val (.int (k_errorCount r415.2))) (.val (.int (k_lastBadAddress r415.2))) (.val (.int (k_liveCount r415.2))) hx0 hx1 (Or.inr ⟨_, rfl, rfl⟩) (Or.inr ⟨_, rfl, rfl⟩) hx6 (Or.inr ⟨_, rfl, rfl⟩) hx8 hx9 hx10 hx12 hx14 hx15 hx16 hx17 hx18 hx19 hx20 hx21 (Or.inr ⟨_, rfl, rfl⟩) (Or.inr ⟨_, rfl, rfl⟩) (Or.inr ⟨_, rfl, rfl⟩) (Or.inr ⟨_, rfl, rfl⟩) (Or.inr ⟨_, rfl, rfl⟩) _ (by simpa only [if_neg h3, if_pos h4, if_pos h5, if_pos h6, if_pos h7, if_neg h8] using hf)
          · refine go_icY (pc := 471) (pc' := 483) d47_471 (XT.ii_ne_t h7) j_471_12 ?_
            refine go_iconst (pc := 483) d47_483 ci_0 ?_
            exact law_484_ok (0 : Int32) r415.2 x0 x1 x2 (.val (.int v4)) (.val (.int p0)) x6 (.val (.int v7)) x8 x9 x10 x11 x12 x13 x14 x15 x16 x17 x18 x19 x20 x21 (.val (.int r407.1)) (.val (.int r415.1)) (.val (.int (k_errorCount r415.2))) (.val (.int (k_lastBadAddress r415.2))) (.val (.int (k_liveCount r415.2))) hx0 hx1 (Or.inr ⟨_, rfl, rfl⟩) (Or.inr ⟨_, rfl, rfl⟩) hx6 (Or.inr ⟨_, rfl, rfl⟩) hx8 hx9 hx10 hx12 hx14 hx15 hx16 hx17 hx18 hx19 hx20 hx21 (Or.inr ⟨_, rfl, rfl⟩) (Or.inr ⟨_, rfl, rfl⟩) (Or.inr ⟨_, rfl, rfl⟩) (Or.inr ⟨_, rfl, rfl⟩) (Or.inr ⟨_, rfl, rfl⟩) _ (by simpa only [if_neg h3, if_pos h4, if_pos h5, if_pos h6, if_neg h7] using hf)
        · refine go_icY (pc := 464) (pc' := 483) d47_464 (XT.ii_ne_t h6) j_464_19 ?_
          refine go_iconst (pc := 483) d47_483 ci_0 ?_
          exact law_484_ok (0 : Int32) r415.2 x0 x1 x2 (.val (.int v4)) (.val (.int p0)) x6 (.val (.int v7)) x8 x9 x10 x11 x12 x13 x14 x15 x16 x17 x18 x19 x20 x21 (.val (.int r407.1)) (.val (.int r415.1)) (.val (.int (k_errorCount r415.2))) (.val (.int (k_lastBadAddress r415.2))) (.val (.int (k_liveCount r415.2))) hx0 hx1 (Or.inr ⟨_, rfl, rfl⟩) (Or.inr ⟨_, rfl, rfl⟩) hx6 (Or.inr ⟨_, rfl, rfl⟩) hx8 hx9 hx10 hx12 hx14 hx15 hx16 hx17 hx18 hx19 hx20 hx21 (Or.inr ⟨_, rfl, rfl⟩) (Or.inr ⟨_, rfl, rfl⟩) (Or.inr ⟨_, rfl, rfl⟩) (Or.inr ⟨_, rfl, rfl⟩) (Or.inr ⟨_, rfl, rfl⟩) _ (by simpa only [if_neg h3, if_pos h4, if_pos h5, if_neg h6] using hf)
      · refine go_icY (pc := 452) (pc' := 483) d47_452 (XT.ii_ne_t h5) j_452_31 ?_
        refine go_iconst (pc := 483) d47_483 ci_0 ?_
        exact law_484_ok (0 : Int32) r415.2 x0 x1 x2 (.val (.int v4)) (.val (.int p0)) x6 (.val (.int v7)) x8 x9 x10 x11 x12 x13 x14 x15 x16 x17 x18 x19 x20 x21 (.val (.int r407.1)) (.val (.int r415.1)) (.val (.int (k_errorCount r415.2))) (.val (.int (k_lastBadAddress r415.2))) (.val (.int (k_liveCount r415.2))) hx0 hx1 (Or.inr ⟨_, rfl, rfl⟩) (Or.inr ⟨_, rfl, rfl⟩) hx6 (Or.inr ⟨_, rfl, rfl⟩) hx8 hx9 hx10 hx12 hx14 hx15 hx16 hx17 hx18 hx19 hx20 hx21 (Or.inr ⟨_, rfl, rfl⟩) (Or.inr ⟨_, rfl, rfl⟩) (Or.inr ⟨_, rfl, rfl⟩) (Or.inr ⟨_, rfl, rfl⟩) (Or.inr ⟨_, rfl, rfl⟩) _ (by simpa only [if_neg h3, if_pos h4, if_neg h5] using hf)
    · refine go_icY (pc := 446) (pc' := 483) d47_446 (XT.ii_ne_t h4) j_446_37 ?_
      refine go_iconst (pc := 483) d47_483 ci_0 ?_
      exact law_484_ok (0 : Int32) r415.2 x0 x1 x2 (.val (.int v4)) (.val (.int p0)) x6 (.val (.int v7)) x8 x9 x10 x11 x12 x13 x14 x15 x16 x17 x18 x19 x20 x21 (.val (.int r407.1)) (.val (.int r415.1)) (.val (.int (k_errorCount r415.2))) (.val (.int (k_lastBadAddress r415.2))) (.val (.int (k_liveCount r415.2))) hx0 hx1 (Or.inr ⟨_, rfl, rfl⟩) (Or.inr ⟨_, rfl, rfl⟩) hx6 (Or.inr ⟨_, rfl, rfl⟩) hx8 hx9 hx10 hx12 hx14 hx15 hx16 hx17 hx18 hx19 hx20 hx21 (Or.inr ⟨_, rfl, rfl⟩) (Or.inr ⟨_, rfl, rfl⟩) (Or.inr ⟨_, rfl, rfl⟩) (Or.inr ⟨_, rfl, rfl⟩) (Or.inr ⟨_, rfl, rfl⟩) _ (by simpa only [if_neg h3, if_neg h4] using hf)
set_option maxRecDepth 65536 in
set_option maxHeartbeats 4000000 in
theorem law_343_ok  : ∀ (v4 : Int32) (v6 : Int32) (v7 : Int32) (p0 : Int32) (t0 : S) (x0 : Slot) (x1 : Slot) (x2 : Slot) (x5 : Slot) (x8 : Slot) (x9 : Slot) (x10 : Slot) (x11 : Slot) (x12 : Slot) (x13 : Slot) (x14 : Slot) (x15 : Slot) (x16 : Slot) (x17 : Slot) (x18 : Slot) (hx0 : k1 x0) (hx1 : k2 x1 x2) (hx5 : k1 x5) (hx8 : k1 x8) (hx9 : k1 x9) (hx10 : k2 x10 x11) (hx12 : k2 x12 x13) (hx14 : k1 x14) (hx15 : k1 x15) (hx16 : k1 x16) (hx17 : k1 x17) (hx18 : k1 x18) (o : Int32 × S), law_343 v4 v6 v7 p0 t0 = some o → Go PP m47 343 [x0, x1, x2, .val (.ref 1), .val (.int v4), x5, .val (.int v6), .val (.int v7), x8, x9, x10, x11, x12, x13, x14, x15, x16, x17, x18, .unset, .unset, .unset, .unset, .unset, .unset, .unset, .unset] [.int p0] (none, [(9, t0)]) (some (.int o.1), (none, [(9, o.2)])) := by
  intro v4 v6 v7 p0 t0 x0 x1 x2 x5 x8 x9 x10 x11 x12 x13 x14 x15 x16 x17 x18 hx0 hx1 hx5 hx8 hx9 hx10 hx12 hx14 hx15 hx16 hx17 hx18 o hf
  unfold law_343 at hf
  refine go_istore (pc := 343) (L' := [x0, x1, x2, .val (.ref 1), .val (.int v4), .val (.int p0), .val (.int v6), .val (.int v7), x8, x9, x10, x11, x12, x13, x14, x15, x16, x17, x18, .unset, .unset, .unset, .unset, .unset, .unset, .unset, .unset]) d47_343 (stx rfl hx5 rfl) (go_aloadN (pc := 345) d47_345 rfl (go_iload (pc := 346) d47_346 rfl ?_))
  obtain ⟨r348, e1, hf⟩ := Option.bind_eq_some_iff.mp hf
  refine go_virt (pc := 348) (i := 0) (as := [.int v4]) (rest := []) (w' := (none, [(9, r348.2)])) lk_1_40 pd_43 rfl oid_0 rfl rfl rfl rfl rfl rfl ⟨rfl, rfl, rfl, rfl, rfl⟩ d47_348 (c_k_free v4 t0 _ e1) ?_
  refine go_istore (pc := 351) (L' := [x0, x1, x2, .val (.ref 1), .val (.int v4), .val (.int p0), .val (.int v6), .val (.int v7), x8, x9, x10, x11, x12, x13, x14, x15, x16, x17, x18, .val (.int r348.1), .unset, .unset, .unset, .unset, .unset, .unset, .unset]) d47_351 rfl (go_aloadN (pc := 353) d47_353 rfl ?_)
  refine go_virt (pc := 354) (i := 0) (as := []) (rest := []) (w' := (none, [(9, r348.2)])) lk_1_43 pd_44 rfl oid_0 rfl rfl rfl rfl rfl rfl ⟨rfl, rfl, rfl, rfl, rfl⟩ d47_354 (c_k_quarantineBytes r348.2) ?_
  refine go_istore (pc := 357) (L' := [x0, x1, x2, .val (.ref 1), .val (.int v4), .val (.int p0), .val (.int v6), .val (.int v7), x8, x9, x10, x11, x12, x13, x14, x15, x16, x17, x18, .val (.int r348.1), .val (.int (k_quarantineBytes r348.2)), .unset, .unset, .unset, .unset, .unset, .unset]) d47_357 rfl (go_aloadN (pc := 359) d47_359 rfl (go_iconst (pc := 360) d47_360 ci_1 ?_))
  obtain ⟨r361, e2, hf⟩ := Option.bind_eq_some_iff.mp hf
  refine go_virt (pc := 361) (i := 0) (as := [.int (1 : Int32)]) (rest := []) (w' := (none, [(9, r348.2)])) lk_1_46 pd_45 rfl oid_0 rfl rfl rfl rfl rfl rfl ⟨rfl, rfl, rfl, rfl, rfl⟩ d47_361 (c_k_shadow (1 : Int32) r348.2 _ e2) ?_
  refine go_istore (pc := 364) (L' := [x0, x1, x2, .val (.ref 1), .val (.int v4), .val (.int p0), .val (.int v6), .val (.int v7), x8, x9, x10, x11, x12, x13, x14, x15, x16, x17, x18, .val (.int r348.1), .val (.int (k_quarantineBytes r348.2)), .val (.int r361), .unset, .unset, .unset, .unset, .unset]) d47_364 rfl (go_iload (pc := 366) d47_366 rfl ?_)
  by_cases h3 : p0 = 0
  · refine go_ifY (pc := 368) (pc' := 400) d47_368 (XT.i0_eq_t h3) j_368_32 ?_
    refine go_iconst (pc := 400) d47_400 ci_0 ?_
    exact law_401_ok v4 v7 (0 : Int32) r348.2 x0 x1 x2 (.val (.int p0)) (.val (.int v6)) x8 x9 x10 x11 x12 x13 x14 x15 x16 x17 x18 (.val (.int r348.1)) (.val (.int (k_quarantineBytes r348.2))) (.val (.int r361)) hx0 hx1 (Or.inr ⟨_, rfl, rfl⟩) (Or.inr ⟨_, rfl, rfl⟩) hx8 hx9 hx10 hx12 hx14 hx15 hx16 hx17 hx18 (Or.inr ⟨_, rfl, rfl⟩) (Or.inr ⟨_, rfl, rfl⟩) (Or.inr ⟨_, rfl, rfl⟩) _ (by simpa only [if_pos h3] using hf)
  · refine go_ifN (pc := 368) d47_368 (XT.i0_eq_f h3) ?_
    refine go_iload (pc := 371) d47_371 rfl ?_
    by_cases h4 : r348.1 = 0
    · refine go_ifN (pc := 373) d47_373 (XT.i0_ne_f h4) ?_
      refine go_iload (pc := 376) d47_376 rfl (go_bipush (pc := 378) d47_378 cb_8 (go_iconst (pc := 380) d47_380 ci_2 (go_iload (pc := 381) d47_381 rfl (go_iadd (pc := 383) d47_383 (go_imul (pc := 384) d47_384 ?_)))))
      by_cases h5 : (k_quarantineBytes r348.2) = ((8 : Int32) * ((2 : Int32) + v6))
      · refine go_icN (pc := 385) d47_385 (XT.ii_ne_f h5) ?_
        refine go_iload (pc := 388) d47_388 rfl (go_sipush (pc := 390) d47_390 cs_253 ?_)
        by_cases h6 : r361 = (253 : Int32)
        · refine go_icN (pc := 393) d47_393 (XT.ii_ne_f h6) ?_
          refine go_iconst (pc := 396) d47_396 ci_1 (go_goto (pc := 397) (pc' := 401) d47_397 j_397_4 ?_)
          exact law_401_ok v4 v7 (1 : Int32) r348.2 x0 x1 x2 (.val (.int p0)) (.val (.int v6)) x8 x9 x10 x11 x12 x13 x14 x15 x16 x17 x18 (.val (.int r348.1)) (.val (.int (k_quarantineBytes r348.2))) (.val (.int r361)) hx0 hx1 (Or.inr ⟨_, rfl, rfl⟩) (Or.inr ⟨_, rfl, rfl⟩) hx8 hx9 hx10 hx12 hx14 hx15 hx16 hx17 hx18 (Or.inr ⟨_, rfl, rfl⟩) (Or.inr ⟨_, rfl, rfl⟩) (Or.inr ⟨_, rfl, rfl⟩) _ (by simpa only [if_neg h3, if_pos h4, if_pos h5, if_pos h6] using hf)
        · refine go_icY (pc := 393) (pc' := 400) d47_393 (XT.ii_ne_t h6) j_393_7 ?_
          refine go_iconst (pc := 400) d47_400 ci_0 ?_
          exact law_401_ok v4 v7 (0 : Int32) r348.2 x0 x1 x2 (.val (.int p0)) (.val (.int v6)) x8 x9 x10 x11 x12 x13 x14 x15 x16 x17 x18 (.val (.int r348.1)) (.val (.int (k_quarantineBytes r348.2))) (.val (.int r361)) hx0 hx1 (Or.inr ⟨_, rfl, rfl⟩) (Or.inr ⟨_, rfl, rfl⟩) hx8 hx9 hx10 hx12 hx14 hx15 hx16 hx17 hx18 (Or.inr ⟨_, rfl, rfl⟩) (Or.inr ⟨_, rfl, rfl⟩) (Or.inr ⟨_, rfl, rfl⟩) _ (by simpa only [if_neg h3, if_pos h4, if_pos h5, if_neg h6] using hf)
      · refine go_icY (pc := 385) (pc' := 400) d47_385 (XT.ii_ne_t h5) j_385_15 ?_
        refine go_iconst (pc := 400) d47_400 ci_0 ?_
        exact law_401_ok v4 v7 (0 : Int32) r348.2 x0 x1 x2 (.val (.int p0)) (.val (.int v6)) x8 x9 x10 x11 x12 x13 x14 x15 x16 x17 x18 (.val (.int r348.1)) (.val (.int (k_quarantineBytes r348.2))) (.val (.int r361)) hx0 hx1 (Or.inr ⟨_, rfl, rfl⟩) (Or.inr ⟨_, rfl, rfl⟩) hx8 hx9 hx10 hx12 hx14 hx15 hx16 hx17 hx18 (Or.inr ⟨_, rfl, rfl⟩) (Or.inr ⟨_, rfl, rfl⟩) (Or.inr ⟨_, rfl, rfl⟩) _ (by simpa only [if_neg h3, if_pos h4, if_neg h5] using hf)
    · refine go_ifY (pc := 373) (pc' := 400) d47_373 (XT.i0_ne_t h4) j_373_27 ?_
      refine go_iconst (pc := 400) d47_400 ci_0 ?_
      exact law_401_ok v4 v7 (0 : Int32) r348.2 x0 x1 x2 (.val (.int p0)) (.val (.int v6)) x8 x9 x10 x11 x12 x13 x14 x15 x16 x17 x18 (.val (.int r348.1)) (.val (.int (k_quarantineBytes r348.2))) (.val (.int r361)) hx0 hx1 (Or.inr ⟨_, rfl, rfl⟩) (Or.inr ⟨_, rfl, rfl⟩) hx8 hx9 hx10 hx12 hx14 hx15 hx16 hx17 hx18 (Or.inr ⟨_, rfl, rfl⟩) (Or.inr ⟨_, rfl, rfl⟩) (Or.inr ⟨_, rfl, rfl⟩) _ (by simpa only [if_neg h3, if_neg h4] using hf)
set_option maxRecDepth 65536 in
set_option maxHeartbeats 4000000 in
theorem law_317_ok  : ∀ (v0 : Int32) (v4 : Int32) (v6 : Int32) (v7 : Int32) (p0 : Int32) (t0 : S) (x1 : Slot) (x2 : Slot) (x5 : Slot) (x8 : Slot) (x9 : Slot) (x10 : Slot) (x11 : Slot) (x12 : Slot) (x13 : Slot) (x14 : Slot) (x15 : Slot) (x16 : Slot) (x17 : Slot) (hx1 : k2 x1 x2) (hx5 : k1 x5) (hx8 : k1 x8) (hx9 : k1 x9) (hx10 : k2 x10 x11) (hx12 : k2 x12 x13) (hx14 : k1 x14) (hx15 : k1 x15) (hx16 : k1 x16) (hx17 : k1 x17) (o : Int32 × S), law_317 v0 v4 v6 v7 p0 t0 = some o → Go PP m47 317 [.val (.int v0), x1, x2, .val (.ref 1), .val (.int v4), x5, .val (.int v6), .val (.int v7), x8, x9, x10, x11, x12, x13, x14, x15, x16, x17, .unset, .unset, .unset, .unset, .unset, .unset, .unset, .unset, .unset] [.int p0] (none, [(9, t0)]) (some (.int o.1), (none, [(9, o.2)])) := by
  intro v0 v4 v6 v7 p0 t0 x1 x2 x5 x8 x9 x10 x11 x12 x13 x14 x15 x16 x17 hx1 hx5 hx8 hx9 hx10 hx12 hx14 hx15 hx16 hx17 o hf
  unfold law_317 at hf
  refine go_istore (pc := 317) (L' := [.val (.int v0), x1, x2, .val (.ref 1), .val (.int v4), .val (.int p0), .val (.int v6), .val (.int v7), x8, x9, x10, x11, x12, x13, x14, x15, x16, x17, .unset, .unset, .unset, .unset, .unset, .unset, .unset, .unset, .unset]) d47_317 (stx rfl hx5 rfl) (go_aloadN (pc := 319) d47_319 rfl (go_iload (pc := 320) d47_320 rfl ?_))
  obtain ⟨r322, e1, hf⟩ := Option.bind_eq_some_iff.mp hf
  refine go_virt (pc := 322) (i := 0) (as := [.int v4]) (rest := []) (w' := (none, [(9, t0)])) lk_1_37 pd_36 rfl oid_0 rfl rfl rfl rfl rfl rfl ⟨rfl, rfl, rfl, rfl, rfl⟩ d47_322 (c_k_userSize v4 t0 _ e1) ?_
  refine go_istore (pc := 325) (L' := [.val (.int v0), x1, x2, .val (.ref 1), .val (.int v4), .val (.int p0), .val (.int v6), .val (.int v7), x8, x9, x10, x11, x12, x13, x14, x15, x16, x17, .val (.int r322), .unset, .unset, .unset, .unset, .unset, .unset, .unset, .unset]) d47_325 rfl (go_iload (pc := 327) d47_327 rfl ?_)
  by_cases h2 : p0 = 0
  · refine go_ifY (pc := 329) (pc' := 342) d47_329 (XT.i0_eq_t h2) j_329_13 ?_
    refine go_iconst (pc := 342) d47_342 ci_0 ?_
    exact law_343_ok v4 v6 v7 (0 : Int32) t0 (.val (.int v0)) x1 x2 (.val (.int p0)) x8 x9 x10 x11 x12 x13 x14 x15 x16 x17 (.val (.int r322)) (Or.inr ⟨_, rfl, rfl⟩) hx1 (Or.inr ⟨_, rfl, rfl⟩) hx8 hx9 hx10 hx12 hx14 hx15 hx16 hx17 (Or.inr ⟨_, rfl, rfl⟩) _ (by simpa only [if_pos h2] using hf)
  · refine go_ifN (pc := 329) d47_329 (XT.i0_eq_f h2) ?_
    refine go_iload (pc := 332) d47_332 rfl (go_iloadN (pc := 334) d47_334 rfl ?_)
    by_cases h3 : r322 = v0
    · refine go_icN (pc := 335) d47_335 (XT.ii_ne_f h3) ?_
      refine go_iconst (pc := 338) d47_338 ci_1 (go_goto (pc := 339) (pc' := 343) d47_339 j_339_4 ?_)
      exact law_343_ok v4 v6 v7 (1 : Int32) t0 (.val (.int v0)) x1 x2 (.val (.int p0)) x8 x9 x10 x11 x12 x13 x14 x15 x16 x17 (.val (.int r322)) (Or.inr ⟨_, rfl, rfl⟩) hx1 (Or.inr ⟨_, rfl, rfl⟩) hx8 hx9 hx10 hx12 hx14 hx15 hx16 hx17 (Or.inr ⟨_, rfl, rfl⟩) _ (by simpa only [if_neg h2, if_pos h3] using hf)
    · refine go_icY (pc := 335) (pc' := 342) d47_335 (XT.ii_ne_t h3) j_335_7 ?_
      refine go_iconst (pc := 342) d47_342 ci_0 ?_
      exact law_343_ok v4 v6 v7 (0 : Int32) t0 (.val (.int v0)) x1 x2 (.val (.int p0)) x8 x9 x10 x11 x12 x13 x14 x15 x16 x17 (.val (.int r322)) (Or.inr ⟨_, rfl, rfl⟩) hx1 (Or.inr ⟨_, rfl, rfl⟩) hx8 hx9 hx10 hx12 hx14 hx15 hx16 hx17 (Or.inr ⟨_, rfl, rfl⟩) _ (by simpa only [if_neg h2, if_neg h3] using hf)
set_option maxRecDepth 65536 in
set_option maxHeartbeats 4000000 in
theorem law_273_ok  : ∀ (v0 : Int32) (v4 : Int32) (v6 : Int32) (v7 : Int32) (p0 : Int32) (t0 : S) (x1 : Slot) (x2 : Slot) (x5 : Slot) (x8 : Slot) (x9 : Slot) (x10 : Slot) (x11 : Slot) (x12 : Slot) (x13 : Slot) (x14 : Slot) (x15 : Slot) (hx1 : k2 x1 x2) (hx5 : k1 x5) (hx8 : k1 x8) (hx9 : k1 x9) (hx10 : k2 x10 x11) (hx12 : k2 x12 x13) (hx14 : k1 x14) (hx15 : k1 x15) (o : Int32 × S), law_273 v0 v4 v6 v7 p0 t0 = some o → Go PP m47 273 [.val (.int v0), x1, x2, .val (.ref 1), .val (.int v4), x5, .val (.int v6), .val (.int v7), x8, x9, x10, x11, x12, x13, x14, x15, .unset, .unset, .unset, .unset, .unset, .unset, .unset, .unset, .unset, .unset, .unset] [.int p0] (none, [(9, t0)]) (some (.int o.1), (none, [(9, o.2)])) := by
  intro v0 v4 v6 v7 p0 t0 x1 x2 x5 x8 x9 x10 x11 x12 x13 x14 x15 hx1 hx5 hx8 hx9 hx10 hx12 hx14 hx15 o hf
  unfold law_273 at hf
  refine go_istore (pc := 273) (L' := [.val (.int v0), x1, x2, .val (.ref 1), .val (.int v4), .val (.int p0), .val (.int v6), .val (.int v7), x8, x9, x10, x11, x12, x13, x14, x15, .unset, .unset, .unset, .unset, .unset, .unset, .unset, .unset, .unset, .unset, .unset]) d47_273 (stx rfl hx5 rfl) (go_aloadN (pc := 275) d47_275 rfl (go_iload (pc := 276) d47_276 rfl (go_iconst (pc := 278) d47_278 ci_1 (go_isub (pc := 279) d47_279 (go_iconst (pc := 280) d47_280 ci_1 ?_)))))
  obtain ⟨r281, e1, hf⟩ := Option.bind_eq_some_iff.mp hf
  refine go_virt (pc := 281) (i := 0) (as := [.int (v4 - (1 : Int32)), .int (1 : Int32)]) (rest := []) (w' := (none, [(9, r281.2)])) lk_1_24 pd_31 rfl oid_0 rfl rfl rfl rfl rfl rfl ⟨rfl, rfl, rfl, rfl, rfl⟩ d47_281 (c_k_load (v4 - (1 : Int32)) (1 : Int32) t0 _ e1) ?_
  refine go_istore (pc := 284) (L' := [.val (.int v0), x1, x2, .val (.ref 1), .val (.int v4), .val (.int p0), .val (.int v6), .val (.int v7), x8, x9, x10, x11, x12, x13, x14, x15, .val (.int r281.1), .unset, .unset, .unset, .unset, .unset, .unset, .unset, .unset, .unset, .unset]) d47_284 rfl (go_aloadN (pc := 286) d47_286 rfl ?_)
  refine go_virt (pc := 287) (i := 0) (as := []) (rest := []) (w' := (none, [(9, r281.2)])) lk_1_34 pd_33 rfl oid_0 rfl rfl rfl rfl rfl rfl ⟨rfl, rfl, rfl, rfl, rfl⟩ d47_287 (c_k_lastBadAddress r281.2) ?_
  refine go_istore (pc := 290) (L' := [.val (.int v0), x1, x2, .val (.ref 1), .val (.int v4), .val (.int p0), .val (.int v6), .val (.int v7), x8, x9, x10, x11, x12, x13, x14, x15, .val (.int r281.1), .val (.int (k_lastBadAddress r281.2)), .unset, .unset, .unset, .unset, .unset, .unset, .unset, .unset, .unset]) d47_290 rfl (go_iload (pc := 292) d47_292 rfl ?_)
  by_cases h2 : p0 = 0
  · refine go_ifY (pc := 294) (pc' := 316) d47_294 (XT.i0_eq_t h2) j_294_22 ?_
    refine go_iconst (pc := 316) d47_316 ci_0 ?_
    exact law_317_ok v0 v4 v6 v7 (0 : Int32) r281.2 x1 x2 (.val (.int p0)) x8 x9 x10 x11 x12 x13 x14 x15 (.val (.int r281.1)) (.val (.int (k_lastBadAddress r281.2))) hx1 (Or.inr ⟨_, rfl, rfl⟩) hx8 hx9 hx10 hx12 hx14 hx15 (Or.inr ⟨_, rfl, rfl⟩) (Or.inr ⟨_, rfl, rfl⟩) _ (by simpa only [if_pos h2] using hf)
  · refine go_ifN (pc := 294) d47_294 (XT.i0_eq_f h2) ?_
    refine go_iload (pc := 297) d47_297 rfl (go_iconst (pc := 299) d47_299 ci_1 ?_)
    by_cases h3 : r281.1 = (1 : Int32)
    · refine go_icN (pc := 300) d47_300 (XT.ii_ne_f h3) ?_
      refine go_iload (pc := 303) d47_303 rfl (go_iload (pc := 305) d47_305 rfl (go_iconst (pc := 307) d47_307 ci_1 (go_isub (pc := 308) d47_308 ?_)))
      by_cases h4 : (k_lastBadAddress r281.2) = (v4 - (1 : Int32))
      · refine go_icN (pc := 309) d47_309 (XT.ii_ne_f h4) ?_
        refine go_iconst (pc := 312) d47_312 ci_1 (go_goto (pc := 313) (pc' := 317) d47_313 j_313_4 ?_)
        exact law_317_ok v0 v4 v6 v7 (1 : Int32) r281.2 x1 x2 (.val (.int p0)) x8 x9 x10 x11 x12 x13 x14 x15 (.val (.int r281.1)) (.val (.int (k_lastBadAddress r281.2))) hx1 (Or.inr ⟨_, rfl, rfl⟩) hx8 hx9 hx10 hx12 hx14 hx15 (Or.inr ⟨_, rfl, rfl⟩) (Or.inr ⟨_, rfl, rfl⟩) _ (by simpa only [if_neg h2, if_pos h3, if_pos h4] using hf)
      · refine go_icY (pc := 309) (pc' := 316) d47_309 (XT.ii_ne_t h4) j_309_7 ?_
        refine go_iconst (pc := 316) d47_316 ci_0 ?_
        exact law_317_ok v0 v4 v6 v7 (0 : Int32) r281.2 x1 x2 (.val (.int p0)) x8 x9 x10 x11 x12 x13 x14 x15 (.val (.int r281.1)) (.val (.int (k_lastBadAddress r281.2))) hx1 (Or.inr ⟨_, rfl, rfl⟩) hx8 hx9 hx10 hx12 hx14 hx15 (Or.inr ⟨_, rfl, rfl⟩) (Or.inr ⟨_, rfl, rfl⟩) _ (by simpa only [if_neg h2, if_pos h3, if_neg h4] using hf)
    · refine go_icY (pc := 300) (pc' := 316) d47_300 (XT.ii_ne_t h3) j_300_16 ?_
      refine go_iconst (pc := 316) d47_316 ci_0 ?_
      exact law_317_ok v0 v4 v6 v7 (0 : Int32) r281.2 x1 x2 (.val (.int p0)) x8 x9 x10 x11 x12 x13 x14 x15 (.val (.int r281.1)) (.val (.int (k_lastBadAddress r281.2))) hx1 (Or.inr ⟨_, rfl, rfl⟩) hx8 hx9 hx10 hx12 hx14 hx15 (Or.inr ⟨_, rfl, rfl⟩) (Or.inr ⟨_, rfl, rfl⟩) _ (by simpa only [if_neg h2, if_neg h3] using hf)
set_option maxRecDepth 65536 in
set_option maxHeartbeats 4000000 in
theorem law_229_ok  : ∀ (v0 : Int32) (v4 : Int32) (v6 : Int32) (v7 : Int32) (p0 : Int32) (t0 : S) (x1 : Slot) (x2 : Slot) (x5 : Slot) (x8 : Slot) (x9 : Slot) (x10 : Slot) (x11 : Slot) (x12 : Slot) (x13 : Slot) (hx1 : k2 x1 x2) (hx5 : k1 x5) (hx8 : k1 x8) (hx9 : k1 x9) (hx10 : k2 x10 x11) (hx12 : k2 x12 x13) (o : Int32 × S), law_229 v0 v4 v6 v7 p0 t0 = some o → Go PP m47 229 [.val (.int v0), x1, x2, .val (.ref 1), .val (.int v4), x5, .val (.int v6), .val (.int v7), x8, x9, x10, x11, x12, x13, .unset, .unset, .unset, .unset, .unset, .unset, .unset, .unset, .unset, .unset, .unset, .unset, .unset] [.int p0] (none, [(9, t0)]) (some (.int o.1), (none, [(9, o.2)])) := by
  intro v0 v4 v6 v7 p0 t0 x1 x2 x5 x8 x9 x10 x11 x12 x13 hx1 hx5 hx8 hx9 hx10 hx12 o hf
  unfold law_229 at hf
  refine go_istore (pc := 229) (L' := [.val (.int v0), x1, x2, .val (.ref 1), .val (.int v4), .val (.int p0), .val (.int v6), .val (.int v7), x8, x9, x10, x11, x12, x13, .unset, .unset, .unset, .unset, .unset, .unset, .unset, .unset, .unset, .unset, .unset, .unset, .unset]) d47_229 (stx rfl hx5 rfl) (go_aloadN (pc := 231) d47_231 rfl (go_iload (pc := 232) d47_232 rfl (go_iloadN (pc := 234) d47_234 rfl (go_iadd (pc := 235) d47_235 (go_iconst (pc := 236) d47_236 ci_1 ?_)))))
  obtain ⟨r237, e1, hf⟩ := Option.bind_eq_some_iff.mp hf
  refine go_virt (pc := 237) (i := 0) (as := [.int (v4 + v0), .int (1 : Int32)]) (rest := []) (w' := (none, [(9, r237.2)])) lk_1_24 pd_31 rfl oid_0 rfl rfl rfl rfl rfl rfl ⟨rfl, rfl, rfl, rfl, rfl⟩ d47_237 (c_k_load (v4 + v0) (1 : Int32) t0 _ e1) ?_
  refine go_istore (pc := 240) (L' := [.val (.int v0), x1, x2, .val (.ref 1), .val (.int v4), .val (.int p0), .val (.int v6), .val (.int v7), x8, x9, x10, x11, x12, x13, .val (.int r237.1), .unset, .unset, .unset, .unset, .unset, .unset, .unset, .unset, .unset, .unset, .unset, .unset]) d47_240 rfl (go_aloadN (pc := 242) d47_242 rfl ?_)
  refine go_virt (pc := 243) (i := 0) (as := []) (rest := []) (w' := (none, [(9, r237.2)])) lk_1_34 pd_33 rfl oid_0 rfl rfl rfl rfl rfl rfl ⟨rfl, rfl, rfl, rfl, rfl⟩ d47_243 (c_k_lastBadAddress r237.2) ?_
  refine go_istore (pc := 246) (L' := [.val (.int v0), x1, x2, .val (.ref 1), .val (.int v4), .val (.int p0), .val (.int v6), .val (.int v7), x8, x9, x10, x11, x12, x13, .val (.int r237.1), .val (.int (k_lastBadAddress r237.2)), .unset, .unset, .unset, .unset, .unset, .unset, .unset, .unset, .unset, .unset, .unset]) d47_246 rfl (go_iload (pc := 248) d47_248 rfl ?_)
  by_cases h2 : p0 = 0
  · refine go_ifY (pc := 250) (pc' := 272) d47_250 (XT.i0_eq_t h2) j_250_22 ?_
    refine go_iconst (pc := 272) d47_272 ci_0 ?_
    exact law_273_ok v0 v4 v6 v7 (0 : Int32) r237.2 x1 x2 (.val (.int p0)) x8 x9 x10 x11 x12 x13 (.val (.int r237.1)) (.val (.int (k_lastBadAddress r237.2))) hx1 (Or.inr ⟨_, rfl, rfl⟩) hx8 hx9 hx10 hx12 (Or.inr ⟨_, rfl, rfl⟩) (Or.inr ⟨_, rfl, rfl⟩) _ (by simpa only [if_pos h2] using hf)
  · refine go_ifN (pc := 250) d47_250 (XT.i0_eq_f h2) ?_
    refine go_iload (pc := 253) d47_253 rfl (go_iconst (pc := 255) d47_255 ci_2 ?_)
    by_cases h3 : r237.1 = (2 : Int32)
    · refine go_icN (pc := 256) d47_256 (XT.ii_ne_f h3) ?_
      refine go_iload (pc := 259) d47_259 rfl (go_iload (pc := 261) d47_261 rfl (go_iloadN (pc := 263) d47_263 rfl (go_iadd (pc := 264) d47_264 ?_)))
      by_cases h4 : (k_lastBadAddress r237.2) = (v4 + v0)
      · refine go_icN (pc := 265) d47_265 (XT.ii_ne_f h4) ?_
        refine go_iconst (pc := 268) d47_268 ci_1 (go_goto (pc := 269) (pc' := 273) d47_269 j_269_4 ?_)
        exact law_273_ok v0 v4 v6 v7 (1 : Int32) r237.2 x1 x2 (.val (.int p0)) x8 x9 x10 x11 x12 x13 (.val (.int r237.1)) (.val (.int (k_lastBadAddress r237.2))) hx1 (Or.inr ⟨_, rfl, rfl⟩) hx8 hx9 hx10 hx12 (Or.inr ⟨_, rfl, rfl⟩) (Or.inr ⟨_, rfl, rfl⟩) _ (by simpa only [if_neg h2, if_pos h3, if_pos h4] using hf)
      · refine go_icY (pc := 265) (pc' := 272) d47_265 (XT.ii_ne_t h4) j_265_7 ?_
        refine go_iconst (pc := 272) d47_272 ci_0 ?_
        exact law_273_ok v0 v4 v6 v7 (0 : Int32) r237.2 x1 x2 (.val (.int p0)) x8 x9 x10 x11 x12 x13 (.val (.int r237.1)) (.val (.int (k_lastBadAddress r237.2))) hx1 (Or.inr ⟨_, rfl, rfl⟩) hx8 hx9 hx10 hx12 (Or.inr ⟨_, rfl, rfl⟩) (Or.inr ⟨_, rfl, rfl⟩) _ (by simpa only [if_neg h2, if_pos h3, if_neg h4] using hf)
    · refine go_icY (pc := 256) (pc' := 272) d47_256 (XT.ii_ne_t h3) j_256_16 ?_
      refine go_iconst (pc := 272) d47_272 ci_0 ?_
      exact law_273_ok v0 v4 v6 v7 (0 : Int32) r237.2 x1 x2 (.val (.int p0)) x8 x9 x10 x11 x12 x13 (.val (.int r237.1)) (.val (.int (k_lastBadAddress r237.2))) hx1 (Or.inr ⟨_, rfl, rfl⟩) hx8 hx9 hx10 hx12 (Or.inr ⟨_, rfl, rfl⟩) (Or.inr ⟨_, rfl, rfl⟩) _ (by simpa only [if_neg h2, if_neg h3] using hf)
set_option maxRecDepth 65536 in
set_option maxHeartbeats 4000000 in
theorem law_204_ok  : ∀ (v0 : Int32) (v4 : Int32) (v5 : Int32) (v6 : Int32) (v7 : Int32) (v9 : Int32) (v10 : Int64) (p0 : Int64) (t0 : S) (x1 : Slot) (x2 : Slot) (x8 : Slot) (hx1 : k2 x1 x2) (hx8 : k1 x8) (o : Int32 × S), law_204 v0 v4 v5 v6 v7 v9 v10 p0 t0 = some o → Go PP m47 204 [.val (.int v0), x1, x2, .val (.ref 1), .val (.int v4), .val (.int v5), .val (.int v6), .val (.int v7), x8, .val (.int v9), .val (.long v10), .second, .unset, .unset, .unset, .unset, .unset, .unset, .unset, .unset, .unset, .unset, .unset, .unset, .unset, .unset, .unset] [.long p0] (none, [(9, t0)]) (some (.int o.1), (none, [(9, o.2)])) := by
  intro v0 v4 v5 v6 v7 v9 v10 p0 t0 x1 x2 x8 hx1 hx8 o hf
  unfold law_204 at hf
  refine go_lstore (pc := 204) (L' := [.val (.int v0), x1, x2, .val (.ref 1), .val (.int v4), .val (.int v5), .val (.int v6), .val (.int v7), x8, .val (.int v9), .val (.long v10), .second, .val (.long p0), .second, .unset, .unset, .unset, .unset, .unset, .unset, .unset, .unset, .unset, .unset, .unset, .unset, .unset]) d47_204 rfl (go_iload (pc := 206) d47_206 rfl ?_)
  by_cases h1 : v5 = 0
  · refine go_ifY (pc := 208) (pc' := 228) d47_208 (XT.i0_eq_t h1) j_208_20 ?_
    refine go_iconst (pc := 228) d47_228 ci_0 ?_
    exact law_229_ok v0 v4 v6 v7 (0 : Int32) t0 x1 x2 (.val (.int v5)) x8 (.val (.int v9)) (.val (.long v10)) .second (.val (.long p0)) .second hx1 (Or.inr ⟨_, rfl, rfl⟩) hx8 (Or.inr ⟨_, rfl, rfl⟩) (Or.inr ⟨_, rfl, rfl⟩) (Or.inr ⟨_, rfl, rfl⟩) _ (by simpa only [if_pos h1] using hf)
  · refine go_ifN (pc := 208) d47_208 (XT.i0_eq_f h1) ?_
    refine go_iload (pc := 211) d47_211 rfl ?_
    by_cases h2 : v9 = 0
    · refine go_ifN (pc := 213) d47_213 (XT.i0_ne_f h2) ?_
      refine go_lload (pc := 216) d47_216 rfl (go_lload (pc := 218) d47_218 rfl (go_lcmp (pc := 220) d47_220 ?_))
      by_cases h3 : v10 = p0
      · refine go_ifN (pc := 221) d47_221 (XT.ll_ne_f h3) ?_
        refine go_iconst (pc := 224) d47_224 ci_1 (go_goto (pc := 225) (pc' := 229) d47_225 j_225_4 ?_)
        exact law_229_ok v0 v4 v6 v7 (1 : Int32) t0 x1 x2 (.val (.int v5)) x8 (.val (.int v9)) (.val (.long v10)) .second (.val (.long p0)) .second hx1 (Or.inr ⟨_, rfl, rfl⟩) hx8 (Or.inr ⟨_, rfl, rfl⟩) (Or.inr ⟨_, rfl, rfl⟩) (Or.inr ⟨_, rfl, rfl⟩) _ (by simpa only [if_neg h1, if_pos h2, if_pos h3] using hf)
      · refine go_ifY (pc := 221) (pc' := 228) d47_221 (XT.ll_ne_t h3) j_221_7 ?_
        refine go_iconst (pc := 228) d47_228 ci_0 ?_
        exact law_229_ok v0 v4 v6 v7 (0 : Int32) t0 x1 x2 (.val (.int v5)) x8 (.val (.int v9)) (.val (.long v10)) .second (.val (.long p0)) .second hx1 (Or.inr ⟨_, rfl, rfl⟩) hx8 (Or.inr ⟨_, rfl, rfl⟩) (Or.inr ⟨_, rfl, rfl⟩) (Or.inr ⟨_, rfl, rfl⟩) _ (by simpa only [if_neg h1, if_pos h2, if_neg h3] using hf)
    · refine go_ifY (pc := 213) (pc' := 228) d47_213 (XT.i0_ne_t h2) j_213_15 ?_
      refine go_iconst (pc := 228) d47_228 ci_0 ?_
      exact law_229_ok v0 v4 v6 v7 (0 : Int32) t0 x1 x2 (.val (.int v5)) x8 (.val (.int v9)) (.val (.long v10)) .second (.val (.long p0)) .second hx1 (Or.inr ⟨_, rfl, rfl⟩) hx8 (Or.inr ⟨_, rfl, rfl⟩) (Or.inr ⟨_, rfl, rfl⟩) (Or.inr ⟨_, rfl, rfl⟩) _ (by simpa only [if_neg h1, if_neg h2] using hf)
set_option maxRecDepth 65536 in
set_option maxHeartbeats 4000000 in
theorem law_171_ok  : ∀ (v0 : Int32) (v1 : Int64) (v4 : Int32) (v5 : Int32) (v6 : Int32) (v7 : Int32) (p0 : Int32) (t0 : S) (x8 : Slot) (x9 : Slot) (x10 : Slot) (hx8 : k1 x8) (hx9 : k1 x9) (hx10 : k1 x10) (o : Int32 × S), law_171 v0 v1 v4 v5 v6 v7 p0 t0 = some o → Go PP m47 171 [.val (.int v0), .val (.long v1), .second, .val (.ref 1), .val (.int v4), .val (.int v5), .val (.int v6), .val (.int v7), x8, x9, x10, .unset, .unset, .unset, .unset, .unset, .unset, .unset, .unset, .unset, .unset, .unset, .unset, .unset, .unset, .unset, .unset] [.int p0] (none, [(9, t0)]) (some (.int o.1), (none, [(9, o.2)])) := by
  intro v0 v1 v4 v5 v6 v7 p0 t0 x8 x9 x10 hx8 hx9 hx10 o hf
  unfold law_171 at hf
  refine go_istore (pc := 171) (L' := [.val (.int v0), .val (.long v1), .second, .val (.ref 1), .val (.int v4), .val (.int v5), .val (.int v6), .val (.int v7), .val (.int p0), x9, x10, .unset, .unset, .unset, .unset, .unset, .unset, .unset, .unset, .unset, .unset, .unset, .unset, .unset, .unset, .unset, .unset]) d47_171 (stx rfl hx8 rfl) (go_aloadN (pc := 173) d47_173 rfl (go_iload (pc := 174) d47_174 rfl (go_iload (pc := 176) d47_176 rfl ?_)))
  obtain ⟨r178, e1, hf⟩ := Option.bind_eq_some_iff.mp hf
  refine go_virt (pc := 178) (i := 0) (as := [.int v4, .int p0]) (rest := []) (w' := (none, [(9, r178.2)])) lk_1_24 pd_31 rfl oid_0 rfl rfl rfl rfl rfl rfl ⟨rfl, rfl, rfl, rfl, rfl⟩ d47_178 (c_k_load v4 p0 t0 _ e1) ?_
  refine go_istore (pc := 181) (L' := [.val (.int v0), .val (.long v1), .second, .val (.ref 1), .val (.int v4), .val (.int v5), .val (.int v6), .val (.int v7), .val (.int p0), .val (.int r178.1), x10, .unset, .unset, .unset, .unset, .unset, .unset, .unset, .unset, .unset, .unset, .unset, .unset, .unset, .unset, .unset, .unset]) d47_181 (stx rfl hx9 rfl) (go_aloadN (pc := 183) d47_183 rfl ?_)
  refine go_virt (pc := 184) (i := 0) (as := []) (rest := []) (w' := (none, [(9, r178.2)])) lk_1_28 pd_32 rfl oid_0 rfl rfl rfl rfl rfl rfl ⟨rfl, rfl, rfl, rfl, rfl⟩ d47_184 (c_k_lastValue r178.2) ?_
  refine go_lstore (pc := 187) (L' := [.val (.int v0), .val (.long v1), .second, .val (.ref 1), .val (.int v4), .val (.int v5), .val (.int v6), .val (.int v7), .val (.int p0), .val (.int r178.1), .val (.long (k_lastValue r178.2)), .second, .unset, .unset, .unset, .unset, .unset, .unset, .unset, .unset, .unset, .unset, .unset, .unset, .unset, .unset, .unset]) d47_187 (stx3 rfl rfl hx10 (Or.inl rfl)) (go_iloadN (pc := 189) d47_189 rfl (go_bipush (pc := 190) d47_190 cb_8 ?_))
  by_cases h2 : v0 < (8 : Int32)
  · refine go_icY (pc := 192) (pc' := 199) d47_192 (XT.ii_lt_t h2) j_192_7 ?_
    refine go_lloadN (pc := 199) d47_199 rfl (go_ldc2 (pc := 200) (u := (255 : Int64)) d47_200 (List.mem_of_getElem? (i := 187) rfl) (go_land (pc := 203) d47_203 ?_))
    exact law_204_ok v0 v4 v5 v6 v7 r178.1 (k_lastValue r178.2) (v1 &&& (255 : Int64)) r178.2 (.val (.long v1)) .second (.val (.int p0)) (Or.inr ⟨_, rfl, rfl⟩) (Or.inr ⟨_, rfl, rfl⟩) _ (by simpa only [if_pos h2] using hf)
  · refine go_icN (pc := 192) d47_192 (XT.ii_lt_f h2) ?_
    refine go_lloadN (pc := 195) d47_195 rfl (go_goto (pc := 196) (pc' := 204) d47_196 j_196_8 ?_)
    exact law_204_ok v0 v4 v5 v6 v7 r178.1 (k_lastValue r178.2) v1 r178.2 (.val (.long v1)) .second (.val (.int p0)) (Or.inr ⟨_, rfl, rfl⟩) (Or.inr ⟨_, rfl, rfl⟩) _ (by simpa only [if_neg h2] using hf)
set_option maxRecDepth 65536 in
set_option maxHeartbeats 4000000 in
theorem law_159_ok  : ∀ (v0 : Int32) (v1 : Int64) (v4 : Int32) (v5 : Int32) (v6 : Int32) (v7 : Int32) (t0 : S) (x8 : Slot) (x9 : Slot) (x10 : Slot) (hx8 : k1 x8) (hx9 : k1 x9) (hx10 : k1 x10) (o : Int32 × S), law_159 v0 v1 v4 v5 v6 v7 t0 = some o → Go PP m47 159 [.val (.int v0), .val (.long v1), .second, .val (.ref 1), .val (.int v4), .val (.int v5), .val (.int v6), .val (.int v7), x8, x9, x10, .unset, .unset, .unset, .unset, .unset, .unset, .unset, .unset, .unset, .unset, .unset, .unset, .unset, .unset, .unset, .unset] [] (none, [(9, t0)]) (some (.int o.1), (none, [(9, o.2)])) := by
  intro v0 v1 v4 v5 v6 v7 t0 x8 x9 x10 hx8 hx9 hx10 o hf
  unfold law_159 at hf
  refine go_iloadN (pc := 159) d47_159 rfl (go_bipush (pc := 160) d47_160 cb_8 ?_)
  by_cases h1 : v0 < (8 : Int32)
  · refine go_icY (pc := 162) (pc' := 170) d47_162 (XT.ii_lt_t h1) j_162_8 ?_
    refine go_iconst (pc := 170) d47_170 ci_1 ?_
    exact law_171_ok v0 v1 v4 v5 v6 v7 (1 : Int32) t0 x8 x9 x10 hx8 hx9 hx10 _ (by simpa only [if_pos h1] using hf)
  · refine go_icN (pc := 162) d47_162 (XT.ii_lt_f h1) ?_
    refine go_bipush (pc := 165) d47_165 cb_8 (go_goto (pc := 167) (pc' := 171) d47_167 j_167_4 ?_)
    exact law_171_ok v0 v1 v4 v5 v6 v7 (8 : Int32) t0 x8 x9 x10 hx8 hx9 hx10 _ (by simpa only [if_neg h1] using hf)
def T_law_95 (k95 : Int32 → Int64 → Int32 → Int32 → Int32 → Int32 → Int32 → S → Option (Int32 × S)) : Prop := ∀ (v0 : Int32) (v1 : Int64) (v4 : Int32) (v5 : Int32) (v6 : Int32) (v7 : Int32) (v8 : Int32) (t0 : S) (x9 : Slot) (x10 : Slot) (hx9 : k1 x9) (hx10 : k1 x10) (o : Int32 × S), k95 v0 v1 v4 v5 v6 v7 v8 t0 = some o → Go PP m47 95 [.val (.int v0), .val (.long v1), .second, .val (.ref 1), .val (.int v4), .val (.int v5), .val (.int v6), .val (.int v7), .val (.int v8), x9, x10, .unset, .unset, .unset, .unset, .unset, .unset, .unset, .unset, .unset, .unset, .unset, .unset, .unset, .unset, .unset, .unset] [] (none, [(9, t0)]) (some (.int o.1), (none, [(9, o.2)]))
set_option maxRecDepth 65536 in
set_option maxHeartbeats 4000000 in
theorem law_151_ok {k95 : Int32 → Int64 → Int32 → Int32 → Int32 → Int32 → Int32 → S → Option (Int32 × S)} (hk95 : T_law_95 k95) : ∀ (v0 : Int32) (v1 : Int64) (v4 : Int32) (v6 : Int32) (v7 : Int32) (v8 : Int32) (p0 : Int32) (t0 : S) (x5 : Slot) (x9 : Slot) (x10 : Slot) (hx5 : k1 x5) (hx9 : k1 x9) (hx10 : k1 x10) (o : Int32 × S), law_151 k95 v0 v1 v4 v6 v7 v8 p0 t0 = some o → Go PP m47 151 [.val (.int v0), .val (.long v1), .second, .val (.ref 1), .val (.int v4), x5, .val (.int v6), .val (.int v7), .val (.int v8), x9, x10, .unset, .unset, .unset, .unset, .unset, .unset, .unset, .unset, .unset, .unset, .unset, .unset, .unset, .unset, .unset, .unset] [.int p0] (none, [(9, t0)]) (some (.int o.1), (none, [(9, o.2)])) := by
  intro v0 v1 v4 v6 v7 v8 p0 t0 x5 x9 x10 hx5 hx9 hx10 o hf
  unfold law_151 at hf
  refine go_istore (pc := 151) (L' := [.val (.int v0), .val (.long v1), .second, .val (.ref 1), .val (.int v4), .val (.int p0), .val (.int v6), .val (.int v7), .val (.int v8), x9, x10, .unset, .unset, .unset, .unset, .unset, .unset, .unset, .unset, .unset, .unset, .unset, .unset, .unset, .unset, .unset, .unset]) d47_151 (stx rfl hx5 rfl) (go_iinc (pc := 153) (L' := [.val (.int v0), .val (.long v1), .second, .val (.ref 1), .val (.int v4), .val (.int p0), .val (.int v6), .val (.int v7), .val (.int (v8 + (1 : Int32))), x9, x10, .unset, .unset, .unset, .unset, .unset, .unset, .unset, .unset, .unset, .unset, .unset, .unset, .unset, .unset, .unset, .unset]) d47_153 rfl ci_1 rfl (go_goto (pc := 156) (pc' := 95) d47_156 j_156_m61 ?_))
  exact hk95 v0 v1 v4 p0 v6 v7 (v8 + (1 : Int32)) t0 x9 x10 hx9 hx10 _ hf
set_option maxRecDepth 65536 in
set_option maxHeartbeats 4000000 in
theorem law_132_ok {k95 : Int32 → Int64 → Int32 → Int32 → Int32 → Int32 → Int32 → S → Option (Int32 × S)} (hk95 : T_law_95 k95) : ∀ (v0 : Int32) (v1 : Int64) (v4 : Int32) (v5 : Int32) (v6 : Int32) (v7 : Int32) (v8 : Int32) (v9 : Int32) (p0 : Int32) (t0 : S) (x10 : Slot) (hx10 : k1 x10) (o : Int32 × S), law_132 k95 v0 v1 v4 v5 v6 v7 v8 v9 p0 t0 = some o → Go PP m47 132 [.val (.int v0), .val (.long v1), .second, .val (.ref 1), .val (.int v4), .val (.int v5), .val (.int v6), .val (.int v7), .val (.int v8), .val (.int v9), x10, .unset, .unset, .unset, .unset, .unset, .unset, .unset, .unset, .unset, .unset, .unset, .unset, .unset, .unset, .unset, .unset] [.int p0] (none, [(9, t0)]) (some (.int o.1), (none, [(9, o.2)])) := by
  intro v0 v1 v4 v5 v6 v7 v8 v9 p0 t0 x10 hx10 o hf
  unfold law_132 at hf
  refine go_istore (pc := 132) (L' := [.val (.int v0), .val (.long v1), .second, .val (.ref 1), .val (.int v4), .val (.int v5), .val (.int v6), .val (.int v7), .val (.int v8), .val (.int v9), .val (.int p0), .unset, .unset, .unset, .unset, .unset, .unset, .unset, .unset, .unset, .unset, .unset, .unset, .unset, .unset, .unset, .unset]) d47_132 (stx rfl hx10 rfl) (go_iload (pc := 134) d47_134 rfl ?_)
  by_cases h1 : v5 = 0
  · refine go_ifY (pc := 136) (pc' := 150) d47_136 (XT.i0_eq_t h1) j_136_14 ?_
    refine go_iconst (pc := 150) d47_150 ci_0 ?_
    exact law_151_ok hk95 v0 v1 v4 v6 v7 v8 (0 : Int32) t0 (.val (.int v5)) (.val (.int v9)) (.val (.int p0)) (Or.inr ⟨_, rfl, rfl⟩) (Or.inr ⟨_, rfl, rfl⟩) (Or.inr ⟨_, rfl, rfl⟩) _ (by simpa only [if_pos h1] using hf)
  · refine go_ifN (pc := 136) d47_136 (XT.i0_eq_f h1) ?_
    refine go_iload (pc := 139) d47_139 rfl (go_iload (pc := 141) d47_141 rfl ?_)
    by_cases h2 : v9 = p0
    · refine go_icN (pc := 143) d47_143 (XT.ii_ne_f h2) ?_
      refine go_iconst (pc := 146) d47_146 ci_1 (go_goto (pc := 147) (pc' := 151) d47_147 j_147_4 ?_)
      exact law_151_ok hk95 v0 v1 v4 v6 v7 v8 (1 : Int32) t0 (.val (.int v5)) (.val (.int v9)) (.val (.int p0)) (Or.inr ⟨_, rfl, rfl⟩) (Or.inr ⟨_, rfl, rfl⟩) (Or.inr ⟨_, rfl, rfl⟩) _ (by simpa only [if_neg h1, if_pos h2] using hf)
    · refine go_icY (pc := 143) (pc' := 150) d47_143 (XT.ii_ne_t h2) j_143_7 ?_
      refine go_iconst (pc := 150) d47_150 ci_0 ?_
      exact law_151_ok hk95 v0 v1 v4 v6 v7 v8 (0 : Int32) t0 (.val (.int v5)) (.val (.int v9)) (.val (.int p0)) (Or.inr ⟨_, rfl, rfl⟩) (Or.inr ⟨_, rfl, rfl⟩) (Or.inr ⟨_, rfl, rfl⟩) _ (by simpa only [if_neg h1, if_neg h2] using hf)
set_option maxRecDepth 65536 in
set_option maxHeartbeats 4000000 in
theorem law_95_ok  : ∀ (n : Nat) (v0 : Int32) (v1 : Int64) (v4 : Int32) (v5 : Int32) (v6 : Int32) (v7 : Int32) (v8 : Int32) (t0 : S) (x9 : Slot) (x10 : Slot) (hx9 : k1 x9) (hx10 : k1 x10) (o : Int32 × S), law_95 n v0 v1 v4 v5 v6 v7 v8 t0 = some o → Go PP m47 95 [.val (.int v0), .val (.long v1), .second, .val (.ref 1), .val (.int v4), .val (.int v5), .val (.int v6), .val (.int v7), .val (.int v8), x9, x10, .unset, .unset, .unset, .unset, .unset, .unset, .unset, .unset, .unset, .unset, .unset, .unset, .unset, .unset, .unset, .unset] [] (none, [(9, t0)]) (some (.int o.1), (none, [(9, o.2)])) := by
  intro n
  induction n with
  | zero => intro v0 v1 v4 v5 v6 v7 v8 t0 x9 x10 hx9 hx10 o hf; exact nomatch hf
  | succ n ih =>
    intro v0 v1 v4 v5 v6 v7 v8 t0 x9 x10 hx9 hx10 o hf
    unfold law_95 at hf
    refine go_iload (pc := 95) d47_95 rfl (go_bipush (pc := 97) d47_97 cb_8 ?_)
    by_cases h1 : v8 < (8 : Int32)
    · replace hf := (if_pos h1).symm.trans hf
      refine go_icN (pc := 99) d47_99 (XT.ii_ge_f h1) ?_
      refine go_aloadN (pc := 102) d47_102 rfl (go_iload (pc := 103) d47_103 rfl (go_iload (pc := 105) d47_105 rfl (go_iadd (pc := 107) d47_107 (go_iconst (pc := 108) d47_108 ci_1 (go_lloadN (pc := 109) d47_109 rfl (go_bipush (pc := 110) d47_110 cb_8 (go_iload (pc := 112) d47_112 rfl ?_)))))))
      refine go_imul (pc := 114) d47_114 (go_lushr (pc := 115) d47_115 ?_)
      obtain ⟨r116, e2, hf⟩ := Option.bind_eq_some_iff.mp hf
      refine go_virt (pc := 116) (i := 0) (as := [.int (v4 + v8), .int (1 : Int32), .long (XT.ushrL v1 ((8 : Int32) * v8))]) (rest := []) (w' := (none, [(9, r116.2)])) lk_1_20 pd_29 rfl oid_0 rfl rfl rfl rfl rfl rfl ⟨rfl, rfl, rfl, rfl, rfl⟩ d47_116 (c_k_store (v4 + v8) (1 : Int32) (XT.ushrL v1 ((8 : Int32) * v8)) t0 _ e2) ?_
      refine go_istore (pc := 119) (L' := [.val (.int v0), .val (.long v1), .second, .val (.ref 1), .val (.int v4), .val (.int v5), .val (.int v6), .val (.int v7), .val (.int v8), .val (.int r116.1), x10, .unset, .unset, .unset, .unset, .unset, .unset, .unset, .unset, .unset, .unset, .unset, .unset, .unset, .unset, .unset, .unset]) d47_119 (stx rfl hx9 rfl) (go_iload (pc := 121) d47_121 rfl (go_iloadN (pc := 123) d47_123 rfl ?_))
      by_cases h3 : v8 < v0
      · refine go_icN (pc := 124) d47_124 (XT.ii_ge_f h3) ?_
        refine go_iconst (pc := 127) d47_127 ci_0 (go_goto (pc := 128) (pc' := 132) d47_128 j_128_4 ?_)
        exact law_132_ok ih v0 v1 v4 v5 v6 v7 v8 r116.1 (0 : Int32) r116.2 x10 hx10 _ (by simpa only [if_pos h3] using hf)
      · refine go_icY (pc := 124) (pc' := 131) d47_124 (XT.ii_ge_t h3) j_124_7 ?_
        refine go_iconst (pc := 131) d47_131 ci_2 ?_
        exact law_132_ok ih v0 v1 v4 v5 v6 v7 v8 r116.1 (2 : Int32) r116.2 x10 hx10 _ (by simpa only [if_neg h3] using hf)
    · replace hf := (if_neg h1).symm.trans hf
      refine go_icY (pc := 99) (pc' := 159) d47_99 (XT.ii_ge_t h1) j_99_60 ?_
      exact law_159_ok v0 v1 v4 v5 v6 v7 t0 (.val (.int v8)) x9 x10 (Or.inr ⟨_, rfl, rfl⟩) hx9 hx10 _ hf
set_option maxRecDepth 65536 in
set_option maxHeartbeats 4000000 in
theorem law_90_ok  : ∀ (v0 : Int32) (v1 : Int64) (v4 : Int32) (v5 : Int32) (v6 : Int32) (p0 : Int32) (t0 : S)  (o : Int32 × S), law_90 v0 v1 v4 v5 v6 p0 t0 = some o → Go PP m47 90 [.val (.int v0), .val (.long v1), .second, .val (.ref 1), .val (.int v4), .val (.int v5), .val (.int v6), .unset, .unset, .unset, .unset, .unset, .unset, .unset, .unset, .unset, .unset, .unset, .unset, .unset, .unset, .unset, .unset, .unset, .unset, .unset, .unset] [.int p0] (none, [(9, t0)]) (some (.int o.1), (none, [(9, o.2)])) := by
  intro v0 v1 v4 v5 v6 p0 t0 o hf
  unfold law_90 at hf
  refine go_istore (pc := 90) (L' := [.val (.int v0), .val (.long v1), .second, .val (.ref 1), .val (.int v4), .val (.int v5), .val (.int v6), .val (.int p0), .unset, .unset, .unset, .unset, .unset, .unset, .unset, .unset, .unset, .unset, .unset, .unset, .unset, .unset, .unset, .unset, .unset, .unset, .unset]) d47_90 rfl (go_iconst (pc := 92) d47_92 ci_0 (go_istore (pc := 93) (L' := [.val (.int v0), .val (.long v1), .second, .val (.ref 1), .val (.int v4), .val (.int v5), .val (.int v6), .val (.int p0), .val (.int (0 : Int32)), .unset, .unset, .unset, .unset, .unset, .unset, .unset, .unset, .unset, .unset, .unset, .unset, .unset, .unset, .unset, .unset, .unset, .unset]) d47_93 rfl ?_))
  exact law_95_ok BIG v0 v1 v4 v5 v6 p0 (0 : Int32) t0 .unset .unset (Or.inl rfl) (Or.inl rfl) _ hf
set_option maxRecDepth 65536 in
set_option maxHeartbeats 4000000 in
theorem law_67_ok  : ∀ (v0 : Int32) (v1 : Int64) (v4 : Int32) (p0 : Int32) (t0 : S)  (o : Int32 × S), law_67 v0 v1 v4 p0 t0 = some o → Go PP m47 67 [.val (.int v0), .val (.long v1), .second, .val (.ref 1), .val (.int v4), .unset, .unset, .unset, .unset, .unset, .unset, .unset, .unset, .unset, .unset, .unset, .unset, .unset, .unset, .unset, .unset, .unset, .unset, .unset, .unset, .unset, .unset] [.int p0] (none, [(9, t0)]) (some (.int o.1), (none, [(9, o.2)])) := by
  intro v0 v1 v4 p0 t0 o hf
  unfold law_67 at hf
  refine go_istore (pc := 67) (L' := [.val (.int v0), .val (.long v1), .second, .val (.ref 1), .val (.int v4), .val (.int p0), .unset, .unset, .unset, .unset, .unset, .unset, .unset, .unset, .unset, .unset, .unset, .unset, .unset, .unset, .unset, .unset, .unset, .unset, .unset, .unset, .unset]) d47_67 rfl (go_iloadN (pc := 69) d47_69 rfl (go_bipush (pc := 70) d47_70 cb_7 (go_iadd (pc := 72) d47_72 (go_bipush (pc := 73) d47_73 cb_8 (go_idiv (pc := 75) d47_75 (by decide) (go_istore (pc := 76) (L' := [.val (.int v0), .val (.long v1), .second, .val (.ref 1), .val (.int v4), .val (.int p0), .val (.int ((v0 + (7 : Int32)) / (8 : Int32))), .unset, .unset, .unset, .unset, .unset, .unset, .unset, .unset, .unset, .unset, .unset, .unset, .unset, .unset, .unset, .unset, .unset, .unset, .unset, .unset]) d47_76 rfl (go_iloadN (pc := 78) d47_78 rfl ?_)))))))
  refine go_bipush (pc := 79) d47_79 cb_8 ?_
  by_cases h1 : v0 < (8 : Int32)
  · refine go_icN (pc := 81) d47_81 (XT.ii_ge_f h1) ?_
    refine go_iloadN (pc := 84) d47_84 rfl (go_goto (pc := 85) (pc' := 90) d47_85 j_85_5 ?_)
    exact law_90_ok v0 v1 v4 p0 ((v0 + (7 : Int32)) / (8 : Int32)) v0 t0 _ (by simpa only [if_pos h1] using hf)
  · refine go_icY (pc := 81) (pc' := 88) d47_81 (XT.ii_ge_t h1) j_81_7 ?_
    refine go_bipush (pc := 88) d47_88 cb_8 ?_
    exact law_90_ok v0 v1 v4 p0 ((v0 + (7 : Int32)) / (8 : Int32)) (8 : Int32) t0 _ (by simpa only [if_neg h1] using hf)
set_option maxRecDepth 65536 in
set_option maxHeartbeats 4000000 in
theorem law_32_ok  : ∀ (v4 : Int32) (t0 : S) (x0 : Slot) (x1 : Slot) (x2 : Slot) (hx0 : k1 x0) (hx1 : k2 x1 x2) (o : Int32 × S), law_32 v4 t0 = some o → Go PP m47 32 [x0, x1, x2, .val (.ref 1), .val (.int v4), .unset, .unset, .unset, .unset, .unset, .unset, .unset, .unset, .unset, .unset, .unset, .unset, .unset, .unset, .unset, .unset, .unset, .unset, .unset, .unset, .unset, .unset] [] (none, [(9, t0)]) (some (.int o.1), (none, [(9, o.2)])) := by
  intro v4 t0 x0 x1 x2 hx0 hx1 o hf
  unfold law_32 at hf
  refine go_aloadN (pc := 32) d47_32 rfl ?_
  refine go_virt (pc := 33) (i := 0) (as := []) (rest := []) (w' := (none, [(9, t0)])) lk_1_16 pd_22 rfl oid_0 rfl rfl rfl rfl rfl rfl ⟨rfl, rfl, rfl, rfl, rfl⟩ d47_33 (c_k_liveCount t0) ?_
  refine go_istore (pc := 36) (L' := [x0, x1, x2, .val (.ref 1), .val (.int v4), .val (.int (k_liveCount t0)), .unset, .unset, .unset, .unset, .unset, .unset, .unset, .unset, .unset, .unset, .unset, .unset, .unset, .unset, .unset, .unset, .unset, .unset, .unset, .unset, .unset]) d47_36 rfl (go_iload (pc := 38) d47_38 rfl (go_iconst (pc := 40) d47_40 ci_m1 ?_))
  by_cases h1 : v4 = (-1 : Int32)
  · replace hf := (if_pos h1).symm.trans hf
    refine go_icN (pc := 41) d47_41 (XT.ii_ne_f h1) ?_
    refine go_iload (pc := 44) d47_44 rfl ?_
    by_cases h2 : (k_liveCount t0) = 0
    · replace hf := (if_pos h2).symm.trans hf
      refine go_ifN (pc := 46) d47_46 (XT.i0_ne_f h2) ?_
      refine go_iconst (pc := 49) d47_49 ci_1 (go_goto (pc := 50) (pc' := 54) d47_50 j_50_4 ?_)
      cases hf
      exact go_zret (pc := 54) rfl d47_54 (show (1 : Int32) = nar .boolean (1 : Int32) by decide)
    · replace hf := (if_neg h2).symm.trans hf
      refine go_ifY (pc := 46) (pc' := 53) d47_46 (XT.i0_ne_t h2) j_46_7 ?_
      refine go_iconst (pc := 53) d47_53 ci_0 ?_
      cases hf
      exact go_zret (pc := 54) rfl d47_54 (show (0 : Int32) = nar .boolean (0 : Int32) by decide)
  · replace hf := (if_neg h1).symm.trans hf
    refine go_icY (pc := 41) (pc' := 53) d47_41 (XT.ii_ne_t h1) j_41_12 ?_
    refine go_iconst (pc := 53) d47_53 ci_0 ?_
    cases hf
    exact go_zret (pc := 54) rfl d47_54 (show (0 : Int32) = nar .boolean (0 : Int32) by decide)
set_option maxRecDepth 65536 in
set_option maxHeartbeats 4000000 in
theorem law_ok  : ∀ (v0 : Int32) (v1 : Int64)   (o : Int32 × S), law v0 v1 = some o → Go PP m47 0 [.val (.int v0), .val (.long v1), .second, .unset, .unset, .unset, .unset, .unset, .unset, .unset, .unset, .unset, .unset, .unset, .unset, .unset, .unset, .unset, .unset, .unset, .unset, .unset, .unset, .unset, .unset, .unset, .unset] [] (none, []) (some (.int o.1), (none, [(9, o.2)])) := by
  intro v0 v1 o hf
  unfold law at hf
  refine go_new (pc := 0) (n := 0) (w' := (none, [(0, s0)])) (List.mem_of_getElem? (i := 0) rfl) rfl rfl rfl rfl rfl rfl rfl d47_0 oid_0 ?_
  refine go_dupR (pc := 3) d47_3 (go_bipush (pc := 4) d47_4 cb_16 (go_iconst (pc := 6) d47_6 ci_1 (go_sipush (pc := 7) d47_7 cs_256 ?_)))
  obtain ⟨r10, e2, hf⟩ := Option.bind_eq_some_iff.mp hf
  refine go_init (pc := 10) (i := 0) (as := [.int (16 : Int32), .int (1 : Int32), .int (256 : Int32)]) (rest := [.ref 1]) (w' := (none, [(9, r10)])) lk_1_9 pd_5 rfl oid_0 rfl rfl rfl rfl rfl rfl rfl rfl rfl ⟨rfl, rfl, rfl⟩ ⟨rfl, rfl⟩ d47_10 (c_k_init (16 : Int32) (1 : Int32) (256 : Int32) _ e2) ?_
  refine go_astoreN (pc := 13) (L' := [.val (.int v0), .val (.long v1), .second, .val (.ref 1), .unset, .unset, .unset, .unset, .unset, .unset, .unset, .unset, .unset, .unset, .unset, .unset, .unset, .unset, .unset, .unset, .unset, .unset, .unset, .unset, .unset, .unset, .unset]) d47_13 rfl (go_aloadN (pc := 14) d47_14 rfl (go_iloadN (pc := 15) d47_15 rfl ?_))
  obtain ⟨r16, e3, hf⟩ := Option.bind_eq_some_iff.mp hf
  refine go_virt (pc := 16) (i := 0) (as := [.int v0]) (rest := []) (w' := (none, [(9, r16.2)])) lk_1_12 pd_21 rfl oid_0 rfl rfl rfl rfl rfl rfl ⟨rfl, rfl, rfl, rfl, rfl⟩ d47_16 (c_k_alloc v0 r10 _ e3) ?_
  refine go_istore (pc := 19) (L' := [.val (.int v0), .val (.long v1), .second, .val (.ref 1), .val (.int r16.1), .unset, .unset, .unset, .unset, .unset, .unset, .unset, .unset, .unset, .unset, .unset, .unset, .unset, .unset, .unset, .unset, .unset, .unset, .unset, .unset, .unset, .unset]) d47_19 rfl (go_iloadN (pc := 21) d47_21 rfl (go_iconst (pc := 22) d47_22 ci_1 ?_))
  by_cases h4 : v0 < (1 : Int32)
  · replace hf := (if_pos h4).symm.trans hf
    refine go_icY (pc := 23) (pc' := 32) d47_23 (XT.ii_lt_t h4) j_23_9 ?_
    exact law_32_ok r16.1 r16.2 (.val (.int v0)) (.val (.long v1)) .second (Or.inr ⟨_, rfl, rfl⟩) (Or.inr ⟨_, rfl, rfl⟩) _ hf
  · replace hf := (if_neg h4).symm.trans hf
    refine go_icN (pc := 23) d47_23 (XT.ii_lt_f h4) ?_
    refine go_iloadN (pc := 26) d47_26 rfl (go_bipush (pc := 27) d47_27 cb_64 ?_)
    by_cases h5 : (64 : Int32) < v0
    · replace hf := (if_pos h5).symm.trans hf
      refine go_icN (pc := 29) d47_29 (XT.ii_le_f h5) ?_
      exact law_32_ok r16.1 r16.2 (.val (.int v0)) (.val (.long v1)) .second (Or.inr ⟨_, rfl, rfl⟩) (Or.inr ⟨_, rfl, rfl⟩) _ hf
    · replace hf := (if_neg h5).symm.trans hf
      refine go_icY (pc := 29) (pc' := 55) d47_29 (XT.ii_le_t h5) j_29_26 ?_
      refine go_iload (pc := 55) d47_55 rfl (go_bipush (pc := 57) d47_57 cb_8 ?_)
      by_cases h6 : r16.1 = (8 : Int32)
      · refine go_icN (pc := 59) d47_59 (XT.ii_ne_f h6) ?_
        refine go_iconst (pc := 62) d47_62 ci_1 (go_goto (pc := 63) (pc' := 67) d47_63 j_63_4 ?_)
        exact law_67_ok v0 v1 r16.1 (1 : Int32) r16.2 _ (by simpa only [if_pos h6] using hf)
      · refine go_icY (pc := 59) (pc' := 66) d47_59 (XT.ii_ne_t h6) j_59_7 ?_
        refine go_iconst (pc := 66) d47_66 ci_0 ?_
        exact law_67_ok v0 v1 r16.1 (0 : Int32) r16.2 _ (by simpa only [if_neg h6] using hf)
def pnt (f : Nat → Int32) (a : Nat) (v : Int32) : Nat → Nat → Int32
  | 0 => f
  | k + 1 => aupd (pnt f a v k) (a + k) v
theorem pnt_get (f : Nat → Int32) (a : Nat) (v : Int32) : ∀ k g, pnt f a v k g = if a ≤ g ∧ g < a + k then v else f g
  | 0, g => by rw [if_neg (by omega)]; rfl
  | k + 1, g => by
    show (aupd (pnt f a v k) (a + k) v) g = _
    unfold aupd
    by_cases q : g = a + k
    · rw [if_pos q, if_pos (by omega)]
    · rw [if_neg q, pnt_get f a v k g]
      by_cases w : a ≤ g ∧ g < a + k
      · rw [if_pos w, if_pos (by omega)]
      · rw [if_neg w, if_neg (by omega)]
/-- field f of s shows the function h below 16 -/
def Rf (s : S) (f : Nat) (h : Nat → Int32) : Prop := (gA s f).length = 32 ∧ ∀ g, g < 16 → (gA s f)[g]? = some (h g)
theorem Rf.put {s : S} {f : Nat} {h : Nat → Int32} (r : Rf s f h) {g : Nat} (hg : g < 16) (v : Int32) : Rf (sA s f ((gA s f).set g v)) f (aupd h g v) := by
  refine ⟨by rw [gA_sA, if_pos rfl, List.length_set]; exact r.1, fun x hx => ?_⟩
  rw [gA_sA, if_pos rfl]
  unfold aupd
  by_cases q : x = g
  · subst q; rw [if_pos rfl, List.getElem?_set_self (by rw [r.1]; omega)]
  · rw [if_neg q, List.getElem?_set_ne (by omega)]; exact r.2 x hx
theorem Rf.fx {s t : S} {f : Nat} {h : Nat → Int32} (r : Rf s f h) (e : gA t f = gA s f) : Rf t f h := by
  unfold Rf; rw [e]; exact r
theorem paint_loop {a k : Nat} (hk : a + k ≤ 16) (v : Int32) {h : Nat → Int32} : ∀ m j s N, j + m = k → m < N → gI s 0 = 16 → Rf s 1 (pnt h a v j) → ∃ s', k_paintRange_3 N (Int32.ofNat a) (Int32.ofNat k) v (Int32.ofNat j) s = some s' ∧ Fx [] [] [1] [] s s' ∧ Rf s' 1 (pnt h a v k)
  | _, _, _, 0, _, h, _, _ => by omega
  | 0, j, s, N + 1, hj, _, g0, r => by
    have : j = k := by omega
    subst this
    exact ⟨s, by rw [k_paintRange_3, if_neg (by rw [ofNat_lt (by omega) (by omega)]; omega)], Fx.refl .., r⟩
  | m + 1, j, s, N + 1, hj, hN, g0, r => by
    rw [k_paintRange_3, if_pos (by rw [ofNat_lt (by omega) (by omega)]; omega), if_pos ((lt_lit (m := 32) (by omega) (by decide)).mpr (by omega)), ofNat_add', if_neg (ofNat_nonneg (by omega)), g0, if_pos ((lt_lit (m := 16) (by omega) (by decide)).mpr (by omega)), st_ofNat _ _ (by omega) (by rw [r.1]; omega), Option.bind_some, ofNat_succ]
    obtain ⟨s', e, F, R⟩ := paint_loop hk v m (j + 1) (sA s 1 ((gA s 1).set (a + j) v)) N (by omega) (by omega) (by rw [gI_sA]; exact g0) (r.put (by omega) v)
    exact ⟨s', e, ((Fx.refl ..).sA (by simp)).trans F, R⟩
theorem paint_ok {a k : Nat} (hk : a + k ≤ 16) (v : Int32) {h : Nat → Int32} {s : S} (g0 : gI s 0 = 16) (r : Rf s 1 h) : ∃ s', k_paintRange (Int32.ofNat a) (Int32.ofNat k) v s = some s' ∧ Fx [] [] [1] [] s s' ∧ Rf s' 1 (pnt h a v k) :=
  paint_loop hk v k 0 s BIG (by omega) (by unfold BIG; omega) g0 r
theorem owner_loop {a k : Nat} (hk : a + k ≤ 16) (v : Int32) {h : Nat → Int32} : ∀ m j s N, j + m = k → m < N → gI s 0 = 16 → Rf s 2 (pnt h a v j) → ∃ s', k_setOwner_3 N (Int32.ofNat a) (Int32.ofNat k) v (Int32.ofNat j) s = some s' ∧ Fx [] [] [2] [] s s' ∧ Rf s' 2 (pnt h a v k)
  | _, _, _, 0, _, h, _, _ => by omega
  | 0, j, s, N + 1, hj, _, g0, r => by
    have : j = k := by omega
    subst this
    exact ⟨s, by rw [k_setOwner_3, if_neg (by rw [ofNat_lt (by omega) (by omega)]; omega)], Fx.refl .., r⟩
  | m + 1, j, s, N + 1, hj, hN, g0, r => by
    rw [k_setOwner_3, if_pos (by rw [ofNat_lt (by omega) (by omega)]; omega), if_pos ((lt_lit (m := 32) (by omega) (by decide)).mpr (by omega)), ofNat_add', if_neg (ofNat_nonneg (by omega)), g0, if_pos ((lt_lit (m := 16) (by omega) (by decide)).mpr (by omega)), st_ofNat _ _ (by omega) (by rw [r.1]; omega), Option.bind_some, ofNat_succ]
    obtain ⟨s', e, F, R⟩ := owner_loop hk v m (j + 1) (sA s 2 ((gA s 2).set (a + j) v)) N (by omega) (by omega) (by rw [gI_sA]; exact g0) (r.put (by omega) v)
    exact ⟨s', e, ((Fx.refl ..).sA (by simp)).trans F, R⟩
theorem owner_ok {a k : Nat} (hk : a + k ≤ 16) (v : Int32) {h : Nat → Int32} {s : S} (g0 : gI s 0 = 16) (r : Rf s 2 h) : ∃ s', k_setOwner (Int32.ofNat a) (Int32.ofNat k) v s = some s' ∧ Fx [] [] [2] [] s s' ∧ Rf s' 2 (pnt h a v k) :=
  owner_loop hk v k 0 s BIG (by omega) (by unfold BIG; omega) g0 r
/-- the runs of the arena -/
def RR (s : S) (rs : List (Nat × Nat)) : Prop := (gA s 7).length = 32 ∧ (gA s 8).length = 32 ∧ gI s 7 = Int32.ofNat rs.length ∧ rs.length ≤ 16 ∧ (∀ (i : Nat) (p : Nat × Nat), rs[i]? = some p → (gA s 7)[i]? = some (Int32.ofNat p.1) ∧ (gA s 8)[i]? = some (Int32.ofNat p.2)) ∧ ∀ p ∈ rs, p.1 ≤ 16 ∧ p.2 ≤ 16
theorem fit_loop {s : S} {rs : List (Nat × Nat)} (r : RR s rs) {k : Nat} (hk : k ≤ 100) : ∀ m j N, j + m = rs.length → m < N → (∀ i p, i < j → rs[i]? = some p → p.2 < k) → (k_findFitRun_2 N (Int32.ofNat k) (Int32.ofNat j) s = some (-1) ∧ ∀ p ∈ rs, p.2 < k) ∨ ∃ i p, k_findFitRun_2 N (Int32.ofNat k) (Int32.ofNat j) s = some (Int32.ofNat i) ∧ rs[i]? = some p ∧ k ≤ p.2 ∧ ∀ i' p', i' < i → rs[i']? = some p' → p'.2 < k
  | _, _, 0, _, h, _ => by omega
  | 0, j, N + 1, hj, _, b => by
    left
    obtain ⟨l7, l8, c, c16, g, pb⟩ := r
    refine ⟨by rw [k_findFitRun_2, c, if_neg (by rw [ofNat_lt (by omega) (by omega)]; omega)], fun p hp => ?_⟩
    obtain ⟨i, hi⟩ := List.getElem?_of_mem hp
    have := (List.getElem?_eq_some_iff.mp hi).1
    exact b i p (by omega) hi
  | m + 1, j, N + 1, hj, hN, b => by
    obtain ⟨l7, l8, c, c16, g, pb⟩ := id r
    have hj' : j < rs.length := by omega
    have ej : rs[j]? = some rs[j] := List.getElem?_eq_getElem hj'
    obtain ⟨g1, g2⟩ := g j _ ej
    have pj := pb _ (List.mem_of_getElem? ej)
    rw [k_findFitRun_2, c, if_pos (by rw [ofNat_lt (by omega) (by omega)]; omega), if_pos ((lt_lit (m := 32) (by omega) (by decide)).mpr (by omega)), ix_ofNat _ (by omega), g2, Option.bind_some]
    by_cases q : rs[j].2 < k
    · rw [if_pos (by rw [ofNat_lt (by omega) (by omega)]; exact q), ofNat_succ]
      refine fit_loop r hk m (j + 1) N (by omega) (by omega) ?_
      intro i p hi hp
      by_cases w : i = j
      · subst w; rw [ej] at hp; cases hp; exact q
      · exact b i p (by omega) hp
    · rw [if_neg (by rw [ofNat_lt (by omega) (by omega)]; omega)]
      exact Or.inr ⟨j, rs[j], rfl, ej, by omega, fun i' p' h1 h2 => b i' p' h1 h2⟩
theorem fit_ok {s : S} {rs : List (Nat × Nat)} (r : RR s rs) {k : Nat} (hk : k ≤ 100) : (k_findFitRun (Int32.ofNat k) s = some (-1) ∧ ∀ p ∈ rs, p.2 < k) ∨ ∃ i p, k_findFitRun (Int32.ofNat k) s = some (Int32.ofNat i) ∧ rs[i]? = some p ∧ k ≤ p.2 ∧ ∀ i' p', i' < i → rs[i']? = some p' → p'.2 < k := by
  have := r.2.2.2.1
  exact fit_loop r hk rs.length 0 BIG (by omega) (by unfold BIG; omega) (fun i p hi => by omega)
theorem get_mid {A : Type} (pre : List A) (x : A) (post : List A) (i : Nat) : (pre ++ x :: post)[i]? = if i < pre.length then pre[i]? else if i = pre.length then some x else post[i - pre.length - 1]? := by
  rw [List.getElem?_append]
  by_cases q : i < pre.length
  · rw [if_pos q, if_pos q]
  · rw [if_neg q, if_neg q]
    by_cases w : i = pre.length
    · rw [if_pos w, w, Nat.sub_self]; rfl
    · rw [if_neg w]
      obtain ⟨j, hj⟩ : ∃ j, i - pre.length = j + 1 := ⟨i - pre.length - 1, by omega⟩
      rw [hj, List.getElem?_cons_succ]; rfl
def Sep (rs : List (Nat × Nat)) : Prop := rs.Pairwise (fun a b => a.1 + a.2 < b.1) ∧ ∀ p ∈ rs, 0 < p.2 ∧ p.1 + p.2 ≤ 16
def cov (rs : List (Nat × Nat)) (g : Nat) : Prop := ∃ p ∈ rs, p.1 ≤ g ∧ g < p.1 + p.2
def tot (rs : List (Nat × Nat)) : Nat := (rs.map fun p => p.2).sum
theorem tot_app (a b : List (Nat × Nat)) : tot (a ++ b) = tot a + tot b := by unfold tot; simp
theorem tot_cons (p : Nat × Nat) (b : List (Nat × Nat)) : tot (p :: b) = p.2 + tot b := by unfold tot; simp
theorem cov_app (a b : List (Nat × Nat)) (g : Nat) : cov (a ++ b) g ↔ cov a g ∨ cov b g := by
  unfold cov
  constructor
  · rintro ⟨p, hp, h⟩
    rcases List.mem_append.mp hp with q | q
    · exact Or.inl ⟨p, q, h⟩
    · exact Or.inr ⟨p, q, h⟩
  · rintro (⟨p, hp, h⟩ | ⟨p, hp, h⟩)
    · exact ⟨p, List.mem_append_left _ hp, h⟩
    · exact ⟨p, List.mem_append_right _ hp, h⟩
theorem cov_cons (x : Nat × Nat) (b : List (Nat × Nat)) (g : Nat) : cov (x :: b) g ↔ (x.1 ≤ g ∧ g < x.1 + x.2) ∨ cov b g := by
  unfold cov
  constructor
  · rintro ⟨p, hp, h⟩
    rcases List.mem_cons.mp hp with q | q
    · rw [q] at h; exact Or.inl h
    · exact Or.inr ⟨p, q, h⟩
  · rintro (h | ⟨p, hp, h⟩)
    · exact ⟨x, List.mem_cons_self, h⟩
    · exact ⟨p, List.mem_cons_of_mem _ hp, h⟩
theorem sep_mid {pre post : List (Nat × Nat)} {x : Nat × Nat} : Sep (pre ++ x :: post) ↔ Sep pre ∧ Sep post ∧ (∀ p ∈ pre, p.1 + p.2 < x.1) ∧ (∀ q ∈ post, x.1 + x.2 < q.1) ∧ (∀ p ∈ pre, ∀ q ∈ post, p.1 + p.2 < q.1) ∧ 0 < x.2 ∧ x.1 + x.2 ≤ 16 := by
  unfold Sep
  rw [List.pairwise_append, List.pairwise_cons]
  constructor
  · rintro ⟨⟨h1, ⟨h2, h3⟩, h4⟩, h5⟩
    refine ⟨⟨h1, fun p hp => h5 p (List.mem_append_left _ hp)⟩, ⟨h3, fun p hp => h5 p (List.mem_append_right _ (List.mem_cons_of_mem _ hp))⟩, fun p hp => h4 p hp x List.mem_cons_self, h2, fun p hp q hq => h4 p hp q (List.mem_cons_of_mem _ hq), h5 x (List.mem_append_right _ List.mem_cons_self)⟩
  · rintro ⟨⟨h1, h1'⟩, ⟨h2, h2'⟩, h3, h4, h5, h6⟩
    refine ⟨⟨h1, ⟨h4, h2⟩, fun p hp q hq => ?_⟩, fun p hp => ?_⟩
    · rcases List.mem_cons.mp hq with w | w
      · rw [w]; exact h3 p hp
      · exact h5 p hp q w
    · rcases List.mem_append.mp hp with w | w
      · exact h1' p w
      · rcases List.mem_cons.mp w with z | z
        · rw [z]; exact h6
        · exact h2' p z
theorem sep_bound : ∀ {rs : List (Nat × Nat)} (lo : Nat), Sep rs → (∀ p ∈ rs, lo ≤ p.1) → lo ≤ 17 → 2 * rs.length + lo ≤ 17
  | [], lo, _, _, h => by simpa using h
  | x :: r, lo, h, b, h17 => by
    have h0 := (sep_mid (pre := [])).mp h
    obtain ⟨_, hr, _, hx, _, x0, x16⟩ := h0
    have bx := b x List.mem_cons_self
    have := sep_bound (x.1 + x.2 + 1) hr (fun p hp => by have := hx p hp; omega) (by omega)
    rw [List.length_cons]
    omega
theorem sep_len {rs : List (Nat × Nat)} (h : Sep rs) : rs.length ≤ 8 := by
  have := sep_bound 0 h (fun _ _ => by omega) (by omega)
  omega
theorem RR.set8 {s : S} {pre post : List (Nat × Nat)} {p : Nat × Nat} (r : RR s (pre ++ p :: post)) {x : Nat} (hx : x ≤ 16) : RR (sA s 8 ((gA s 8).set pre.length (Int32.ofNat x))) (pre ++ (p.1, x) :: post) := by
  obtain ⟨l7, l8, c, c16, g, pb⟩ := r
  have hlen : (pre ++ (p.1, x) :: post).length = (pre ++ p :: post).length := by simp
  have hp : pre.length < (pre ++ p :: post).length := by simp
  refine ⟨by simp only [gA_sA]; simp [l7], by simp only [gA_sA]; simp [l8], by rw [gI_sA, hlen]; exact c, by omega, fun i q hq => ?_, fun q hq => ?_⟩
  · rw [get_mid] at hq
    simp only [gA_sA]
    simp only [show ¬ (7 : Nat) = 8 by decide, if_false, if_true]
    by_cases w : i < pre.length
    · rw [if_pos w] at hq
      rw [List.getElem?_set_ne (by omega)]
      exact g i q (by rw [get_mid, if_pos w]; exact hq)
    · rw [if_neg w] at hq
      by_cases z : i = pre.length
      · rw [if_pos z] at hq
        cases hq
        rw [z, List.getElem?_set_self (by omega)]
        exact ⟨(g pre.length p (by rw [get_mid, if_neg (by omega), if_pos rfl])).1, rfl⟩
      · rw [if_neg z] at hq
        rw [List.getElem?_set_ne (by omega)]
        exact g i q (by rw [get_mid, if_neg w, if_neg z]; exact hq)
  · rcases List.mem_append.mp hq with w | w
    · exact pb q (List.mem_append_left _ w)
    · rcases List.mem_cons.mp w with z | z
      · rw [z]; exact ⟨(pb p (List.mem_append_right _ List.mem_cons_self)).1, hx⟩
      · exact pb q (List.mem_append_right _ (List.mem_cons_of_mem _ z))
theorem RR.set7 {s : S} {pre post : List (Nat × Nat)} {p : Nat × Nat} (r : RR s (pre ++ p :: post)) {x : Nat} (hx : x ≤ 16) : RR (sA s 7 ((gA s 7).set pre.length (Int32.ofNat x))) (pre ++ (x, p.2) :: post) := by
  obtain ⟨l7, l8, c, c16, g, pb⟩ := r
  have hlen : (pre ++ (x, p.2) :: post).length = (pre ++ p :: post).length := by simp
  have hp : pre.length < (pre ++ p :: post).length := by simp
  refine ⟨by simp only [gA_sA]; simp [l7], by simp only [gA_sA]; simp [l8], by rw [gI_sA, hlen]; exact c, by omega, fun i q hq => ?_, fun q hq => ?_⟩
  · rw [get_mid] at hq
    simp only [gA_sA]
    simp only [show ¬ (8 : Nat) = 7 by decide, if_false, if_true]
    by_cases w : i < pre.length
    · rw [if_pos w] at hq
      rw [List.getElem?_set_ne (by omega)]
      exact g i q (by rw [get_mid, if_pos w]; exact hq)
    · rw [if_neg w] at hq
      by_cases z : i = pre.length
      · rw [if_pos z] at hq
        cases hq
        rw [z, List.getElem?_set_self (by omega)]
        exact ⟨rfl, (g pre.length p (by rw [get_mid, if_neg (by omega), if_pos rfl])).2⟩
      · rw [if_neg z] at hq
        rw [List.getElem?_set_ne (by omega)]
        exact g i q (by rw [get_mid, if_neg w, if_neg z]; exact hq)
  · rcases List.mem_append.mp hq with w | w
    · exact pb q (List.mem_append_left _ w)
    · rcases List.mem_cons.mp w with z | z
      · rw [z]; exact ⟨hx, (pb p (List.mem_append_right _ List.mem_cons_self)).2⟩
      · exact pb q (List.mem_append_right _ (List.mem_cons_of_mem _ z))
theorem RR.at {s : S} {pre post : List (Nat × Nat)} {p : Nat × Nat} (r : RR s (pre ++ p :: post)) : (gA s 7)[pre.length]? = some (Int32.ofNat p.1) ∧ (gA s 8)[pre.length]? = some (Int32.ofNat p.2) := r.2.2.2.2.1 pre.length p (by rw [get_mid, if_neg (by omega), if_pos rfl])
theorem nat_eq {x y : Nat} (hx : x < 1000) (hy : y < 1000) : Int32.ofNat x = Int32.ofNat y ↔ x = y := by
  constructor
  · intro e
    have := congrArg Int32.toInt e
    rw [ofNat_toInt (by omega), ofNat_toInt (by omega)] at this
    omega
  · intro e; rw [e]
def ug (n : Nat) : Nat := (n + 7) / 8
def span (r n : Nat) : Nat := 2 * r + ug n
theorem ug_ok : ∀ n : Fin 65, (Int32.ofNat n.val + 7) / 8 = Int32.ofNat (ug n.val) ∧ ug n.val ≤ 8 ∧ (1 ≤ n.val → 1 ≤ ug n.val) ∧ Int32.ofNat n.val % 8 = Int32.ofNat (n.val % 8) := by decide +kernel
theorem span_ok {s : S} {r n : Nat} (hr : r ≤ 3) (g1 : gI s 1 = Int32.ofNat r) (hn : n ≤ 64) : k_spanFor (Int32.ofNat n) s = some (Int32.ofNat (span r n)) := by
  obtain ⟨u1, u2, _, _⟩ := ug_ok ⟨n, by omega⟩
  dsimp only at u1 u2
  unfold k_spanFor k_userGranulesFor span
  rw [u1, Option.bind_some, g1]
  have : ∀ r : Fin 4, (2 : Int32) * Int32.ofNat r.val = Int32.ofNat (2 * r.val) := by decide
  rw [this ⟨r, by omega⟩, ofNat_add']
def oS : Option (Nat × Nat × Nat) → Nat
  | none => 0
  | some x => x.1
def oN : Option (Nat × Nat × Nat) → Nat
  | none => 0
  | some x => x.2.1
def oQ : Option (Nat × Nat × Nat) → Nat
  | none => 0
  | some x => x.2.2
def RC (s : S) (ch : Nat → Option (Nat × Nat × Nat)) : Prop := (gA s 3).length = 32 ∧ (gA s 4).length = 32 ∧ (gA s 5).length = 32 ∧ ∀ c, c < 32 → (gA s 3)[c]? = some (Int32.ofNat (oS (ch c))) ∧ (gA s 4)[c]? = some (Int32.ofNat (oN (ch c))) ∧ (gA s 5)[c]? = some (Int32.ofNat (oQ (ch c)))
theorem RC.put {s : S} {ch : Nat → Option (Nat × Nat × Nat)} (h : RC s ch) {c : Nat} (hc : c < 32) (o : Option (Nat × Nat × Nat)) {t : S} (e3 : gA t 3 = (gA s 3).set c (Int32.ofNat (oS o))) (e4 : gA t 4 = (gA s 4).set c (Int32.ofNat (oN o))) (e5 : gA t 5 = (gA s 5).set c (Int32.ofNat (oQ o))) : RC t (aupd ch c o) := by
  obtain ⟨l3, l4, l5, g⟩ := h
  refine ⟨by rw [e3, List.length_set]; exact l3, by rw [e4, List.length_set]; exact l4, by rw [e5, List.length_set]; exact l5, fun x hx => ?_⟩
  rw [e3, e4, e5]
  unfold aupd
  by_cases q : x = c
  · subst q
    rw [if_pos rfl, List.getElem?_set_self (by omega), List.getElem?_set_self (by omega), List.getElem?_set_self (by omega)]
    exact ⟨rfl, rfl, rfl⟩
  · rw [if_neg q, List.getElem?_set_ne (by omega), List.getElem?_set_ne (by omega), List.getElem?_set_ne (by omega)]
    exact g x hx
theorem RC.fx {s t : S} {ch : Nat → Option (Nat × Nat × Nat)} (h : RC s ch) (e3 : gA t 3 = gA s 3) (e4 : gA t 4 = gA s 4) (e5 : gA t 5 = gA s 5) : RC t ch := by
  unfold RC; rw [e3, e4, e5]; exact h
theorem RR.fx {s t : S} {rs : List (Nat × Nat)} (h : RR s rs) (e7 : gA t 7 = gA s 7) (e8 : gA t 8 = gA s 8) (i7 : gI t 7 = gI s 7) : RR t rs := by
  unfold RR; rw [e7, e8, i7]; exact h
def RQ (s : S) (q : List Nat) : Prop := (gA s 6).length = 32 ∧ q.length ≤ 16 ∧ gI s 5 = Int32.ofNat q.length ∧ ∃ h, h < 32 ∧ gI s 4 = Int32.ofNat h ∧ ∀ (i c : Nat), q[i]? = some c → (gA s 6)[(h + i) % 32]? = some (Int32.ofNat c)
theorem RQ.fx {s t : S} {q : List Nat} (h : RQ s q) (e6 : gA t 6 = gA s 6) (i5 : gI t 5 = gI s 5) (i4 : gI t 4 = gI s 4) : RQ t q := by
  unfold RQ; rw [e6, i5, i4]; exact h
theorem valid_yes {c : Nat} (hc : c < 32) : k_validSlot (Int32.ofNat c) = 1 := by
  unfold k_validSlot
  rw [if_neg (ofNat_nonneg (by omega)), if_pos ((lt_lit (m := 32) (by omega) (by decide)).mpr hc)]
theorem and31 : ∀ x : Fin 100, Int32.ofNat x.val &&& 31 = Int32.ofNat (x.val % 32) := by decide +kernel
theorem weight_ok {s : S} {ch : Nat → Option (Nat × Nat × Nat)} (h : RC s ch) {r : Nat} (hr : r ≤ 3) (g1 : gI s 1 = Int32.ofNat r) {c : Nat} (hc : c < 32) (hn : oN (ch c) ≤ 64) : k_weightOf (Int32.ofNat c) s = some (Int32.ofNat (8 * span r (oN (ch c)))) := by
  unfold k_weightOf
  have : ∀ x : Fin 20, (8 : Int32) * Int32.ofNat x.val = Int32.ofNat (8 * x.val) := by decide
  obtain ⟨u1, u2, _, _⟩ := ug_ok ⟨oN (ch c), by omega⟩
  dsimp only at u1 u2
  rw [valid_yes hc, if_neg (by decide), ix_ofNat _ (by omega), (h.2.2.2 c hc).2.1, Option.bind_some, span_ok hr g1 hn, Option.bind_some, this ⟨span r (oN (ch c)), by unfold span; omega⟩]
theorem ugran_ok {s : S} {ch : Nat → Option (Nat × Nat × Nat)} (h : RC s ch) {r : Nat} (g1 : gI s 1 = Int32.ofNat r) {c : Nat} (hc : c < 32) : k_userGranule (Int32.ofNat c) s = some (Int32.ofNat (oS (ch c) + r)) := by
  unfold k_userGranule
  rw [valid_yes hc, if_neg (by decide), ix_ofNat _ (by omega), (h.2.2.2 c hc).1, Option.bind_some, g1, ofNat_add']
theorem mul8 : ∀ x : Fin 20, (8 : Int32) * Int32.ofNat x.val = Int32.ofNat (8 * x.val) := by decide
theorem zero_loop (p n : Nat) : ∀ m j s N, j + m = n → n ≤ 64 → p ≤ 1000 → m < N → gI s 3 = 128 → (gA s 0).length = 256 → ∃ s', k_zeroRequested_16 N (Int32.ofNat p) (Int32.ofNat n) (Int32.ofNat j) s = some s' ∧ Fx [] [] [0] [] s s' ∧ (gA s' 0).length = 256
  | _, _, _, 0, _, _, _, h, _, _ => by omega
  | 0, j, s, N + 1, hj, hn, hp, _, g3, l0 => by
    have : j = n := by omega
    subst this
    exact ⟨s, by rw [k_zeroRequested_16, if_neg (by rw [ofNat_lt (by omega) (by omega)]; omega)], Fx.refl .., l0⟩
  | m + 1, j, s, N + 1, hj, hn, hp, hN, g3, l0 => by
    rw [k_zeroRequested_16, if_pos (by rw [ofNat_lt (by omega) (by omega)]; omega), if_pos ((lt_lit (m := 64) (by omega) (by decide)).mpr (by omega)), ofNat_add', if_neg (ofNat_nonneg (by omega)), g3, ofNat_succ]
    by_cases q : p + j < 128
    · rw [if_pos ((lt_lit (m := 128) (by omega) (by decide)).mpr q), st_ofNat _ _ (by omega) (by omega), Option.bind_some]
      obtain ⟨s', e, F, l⟩ := zero_loop p n m (j + 1) (sA s 0 ((gA s 0).set (p + j) (nar .byte 0))) N (by omega) hn hp (by omega) (by rw [gI_sA]; exact g3) (by rw [gA_sA, if_pos rfl, List.length_set]; exact l0)
      exact ⟨s', e, ((Fx.refl ..).sA (by simp)).trans F, l⟩
    · rw [if_neg (fun z => q ((lt_lit (m := 128) (by omega) (by decide)).mp z))]
      exact zero_loop p n m (j + 1) s N (by omega) hn hp (by omega) g3 l0
def cnt (f : Nat → Int32) (v : Int32) : Nat := (List.range 16).countP fun g => decide (f g = v)
def cin (f : Nat → Int32) (a k : Nat) (v : Int32) : Nat := (List.range' a k).countP fun g => decide (f g = v)
theorem cnt_upd (g : Nat → Int32) (f : Nat) (x v : Int32) : ∀ n, f < n → (List.range n).countP (fun i => decide (aupd g f x i = v)) + (if g f = v then 1 else 0) = (List.range n).countP (fun i => decide (g i = v)) + (if x = v then 1 else 0)
  | 0, h => by omega
  | n + 1, h => by
    rw [List.range_succ, List.countP_append, List.countP_append, List.countP_cons, List.countP_cons, List.countP_nil, List.countP_nil]
    by_cases q : f = n
    · subst q
      have e : (List.range f).countP (fun i => decide (aupd g f x i = v)) = (List.range f).countP (fun i => decide (g i = v)) := by
        apply List.countP_congr
        intro i hi
        have := List.mem_range.mp hi
        unfold aupd
        rw [if_neg (by omega)]
      have e2 : aupd g f x f = x := by unfold aupd; rw [if_pos rfl]
      rw [e, e2]
      simp only [decide_eq_true_eq]
      omega
    · have := cnt_upd g f x v n (by omega)
      have e2 : aupd g f x n = g n := by unfold aupd; rw [if_neg (by omega)]
      rw [e2]
      omega
theorem cin_pnt (f : Nat → Int32) (a : Nat) (w v : Int32) (k : Nat) : ∀ j, j ≤ k → pnt f a w j (a + k) = f (a + k) := fun j hj => by
  rw [pnt_get, if_neg (by omega)]
theorem cnt_pnt (f : Nat → Int32) (a : Nat) (w v : Int32) : ∀ k, a + k ≤ 16 → cnt (pnt f a w k) v + cin f a k v = cnt f v + (if w = v then k else 0)
  | 0, _ => by
    show cnt f v + 0 = _
    split <;> rfl
  | k + 1, h => by
    have ih := cnt_pnt f a w v k (by omega)
    have st := cnt_upd (pnt f a w k) (a + k) w v 16 (by omega)
    rw [cin_pnt f a w v k k (Nat.le_refl _)] at st
    have e : cin f a (k + 1) v = cin f a k v + (if f (a + k) = v then 1 else 0) := by
      unfold cin
      rw [List.range'_concat, List.countP_append, List.countP_cons, List.countP_nil, Nat.one_mul]
      simp only [decide_eq_true_eq, Nat.zero_add]
    change (List.range 16).countP (fun i => decide (aupd (pnt f a w k) (a + k) w i = v)) + cin f a (k + 1) v = _
    rw [e]
    unfold cnt at ih
    unfold cnt
    by_cases q : w = v
    · rw [if_pos q] at ih st ⊢; omega
    · rw [if_neg q] at ih st ⊢; omega
theorem cin_all {f : Nat → Int32} {a k : Nat} {v : Int32} (h : ∀ g, a ≤ g → g < a + k → f g = v) : cin f a k v = k := by
  unfold cin
  have : (List.range' a k).countP (fun g => decide (f g = v)) = (List.range' a k).length := by
    rw [List.countP_eq_length]
    intro g hg
    obtain ⟨i, hi, e⟩ := List.mem_range'.mp hg
    rw [decide_eq_true_eq]
    exact h g (by omega) (by omega)
  rw [this, List.length_range']
theorem cin_none {f : Nat → Int32} {a k : Nat} {v : Int32} (h : ∀ g, a ≤ g → g < a + k → f g ≠ v) : cin f a k v = 0 := by
  unfold cin
  rw [List.countP_eq_zero]
  intro g hg
  obtain ⟨i, hi, e⟩ := List.mem_range'.mp hg
  rw [decide_eq_true_eq]
  exact h g (by omega) (by omega)
def shv (r : Nat) (x : Nat × Nat × Nat) (g : Nat) : Int32 := if g < x.1 + r then 250 else if g < x.1 + r + ug x.2.1 then (if x.2.2 = 1 then (if g + 1 = x.1 + r + ug x.2.1 ∧ x.2.1 % 8 ≠ 0 then Int32.ofNat (x.2.1 % 8) else 0) else 253) else 251
def Chk (r : Nat) (own sh : Nat → Int32) (c : Nat) (x : Nat × Nat × Nat) : Prop := 1 ≤ x.2.1 ∧ x.2.1 ≤ 64 ∧ x.1 + span r x.2.1 ≤ 16 ∧ (x.2.2 = 1 ∨ x.2.2 = 2) ∧ ∀ g, x.1 ≤ g → g < x.1 + span r x.2.1 → own g = Int32.ofNat c ∧ sh g = shv r x g
def usum (ch : Nat → Option (Nat × Nat × Nat)) (q : List Nat) : Nat := (q.map fun c => ug (oN (ch c))).sum
def Iv (r : Nat) (ch : Nat → Option (Nat × Nat × Nat)) (lv q : List Nat) (rs : List (Nat × Nat)) (own sh : Nat → Int32) : Prop :=
  (∀ c x, ch c = some x → c < 32 ∧ Chk r own sh c x) ∧ (∀ g, g < 16 → own g ≠ -1 → ∃ c x, ch c = some x ∧ own g = Int32.ofNat c ∧ x.1 ≤ g ∧ g < x.1 + span r x.2.1) ∧ (∀ g, g < 16 → (own g = -1 ↔ cov rs g)) ∧ (∀ g, g < 16 → own g = -1 → sh g = 254) ∧ (lv.Nodup ∧ q.Nodup ∧ (∀ c, c ∈ lv ↔ ∃ x, ch c = some x ∧ x.2.2 = 1) ∧ (∀ c, c ∈ q ↔ ∃ x, ch c = some x ∧ x.2.2 = 2)) ∧ Sep rs ∧ cnt sh 250 = r * (lv.length + q.length) ∧ cnt sh 251 = r * (lv.length + q.length) ∧ cnt sh 253 = usum ch q ∧ cnt sh 254 = tot rs
theorem enc_ne {c : Nat} (hc : c < 1000) : Int32.ofNat c ≠ -1 := fun e => absurd (show (-1 : Int32) < 0 by decide) (by rw [← e]; exact ofNat_nonneg (by omega))
/-- two chunks lie apart -/
theorem apart {r : Nat} {ch : Nat → Option (Nat × Nat × Nat)} {lv q : List Nat} {rs : List (Nat × Nat)} {own sh : Nat → Int32} (I : Iv r ch lv q rs own sh) {c d : Nat} {x y : Nat × Nat × Nat} (hx : ch c = some x) (hy : ch d = some y) {g : Nat} (gx : x.1 ≤ g ∧ g < x.1 + span r x.2.1) (gy : y.1 ≤ g ∧ g < y.1 + span r y.2.1) : c = d := by
  obtain ⟨hc, _, _, _, _, k⟩ := I.1 c x hx
  obtain ⟨hd, _, _, _, _, l⟩ := I.1 d y hy
  have e := (k g gx.1 gx.2).1
  rw [(l g gy.1 gy.2).1] at e
  exact ((nat_eq (by omega) (by omega)).mp e).symm
def paintL (sh : Nat → Int32) (r a n : Nat) : Nat → Int32 := if n % 8 = 0 then pnt (pnt (pnt sh a 250 r) (a + r) 0 (ug n)) (a + r + ug n) 251 r else aupd (pnt (pnt (pnt sh a 250 r) (a + r) 0 (ug n)) (a + r + ug n) 251 r) (a + r + ug n - 1) (Int32.ofNat (n % 8))
theorem paintL_get (sh : Nat → Int32) {r a n : Nat} (hn : 1 ≤ ug n) (g : Nat) : paintL sh r a n g = if a ≤ g ∧ g < a + span r n then shv r (a, n, 1) g else sh g := by
  have p3 : ∀ g, pnt (pnt (pnt sh a 250 r) (a + r) 0 (ug n)) (a + r + ug n) 251 r g = if a ≤ g ∧ g < a + span r n then (if g < a + r then 250 else if g < a + r + ug n then 0 else 251) else sh g := fun g => by
    rw [pnt_get, pnt_get, pnt_get]
    unfold span
    by_cases q : a ≤ g ∧ g < a + (2 * r + ug n)
    · rw [if_pos q]
      by_cases w : g < a + r
      · rw [if_pos w, if_neg (by omega), if_neg (by omega), if_pos (by omega)]
      · rw [if_neg w]
        by_cases z : g < a + r + ug n
        · rw [if_pos z, if_neg (by omega), if_pos (by omega)]
        · rw [if_neg z, if_pos (by omega)]
    · rw [if_neg q, if_neg (by omega), if_neg (by omega), if_neg (by omega)]
  unfold paintL shv
  dsimp only
  by_cases t : n % 8 = 0
  · rw [if_pos t, p3]
    by_cases q : a ≤ g ∧ g < a + span r n
    · rw [if_pos q, if_pos q]
      by_cases w : g < a + r
      · rw [if_pos w, if_pos w]
      · rw [if_neg w, if_neg w]
        by_cases z : g < a + r + ug n
        · rw [if_pos z, if_pos z, if_pos rfl, if_neg (fun y => y.2 t)]
        · rw [if_neg z, if_neg z]
    · rw [if_neg q, if_neg q]
  · rw [if_neg t]
    unfold aupd
    by_cases y : g = a + r + ug n - 1
    · rw [if_pos y, if_pos (by unfold span; omega), if_neg (by omega), if_pos (by omega), if_pos rfl, if_pos ⟨by omega, t⟩]
    · rw [if_neg y, p3]
      by_cases q : a ≤ g ∧ g < a + span r n
      · rw [if_pos q, if_pos q]
        by_cases w : g < a + r
        · rw [if_pos w, if_pos w]
        · rw [if_neg w, if_neg w]
          by_cases z : g < a + r + ug n
          · rw [if_pos z, if_pos z, if_pos rfl, if_neg (fun x => y (by omega))]
          · rw [if_neg z, if_neg z]
      · rw [if_neg q, if_neg q]
theorem paintL_cnt (sh : Nat → Int32) {r a n : Nat} (hn : 1 ≤ ug n) (h16 : a + span r n ≤ 16) (w : ∀ g, a ≤ g → g < a + span r n → sh g = 254) : cnt (paintL sh r a n) 250 = cnt sh 250 + r ∧ cnt (paintL sh r a n) 251 = cnt sh 251 + r ∧ cnt (paintL sh r a n) 253 = cnt sh 253 ∧ cnt (paintL sh r a n) 254 + span r n = cnt sh 254 := by
  have sp : span r n = 2 * r + ug n := rfl
  have A : ∀ v, cnt (pnt (pnt (pnt sh a 250 r) (a + r) 0 (ug n)) (a + r + ug n) 251 r) v + (if (254 : Int32) = v then span r n else 0) = cnt sh v + (if (250 : Int32) = v then r else 0) + (if (0 : Int32) = v then ug n else 0) + (if (251 : Int32) = v then r else 0) := fun v => by
    have c1 := cnt_pnt sh a 250 v r (by omega)
    have c2 := cnt_pnt (pnt sh a 250 r) (a + r) 0 v (ug n) (by omega)
    have c3 := cnt_pnt (pnt (pnt sh a 250 r) (a + r) 0 (ug n)) (a + r + ug n) 251 v r (by omega)
    have e1 : ∀ g, a ≤ g → g < a + r → sh g = 254 := fun g h1 h2 => w g h1 (by omega)
    have e2 : ∀ g, a + r ≤ g → g < a + r + ug n → (pnt sh a 250 r) g = 254 := fun g h1 h2 => by rw [pnt_get, if_neg (by omega)]; exact w g (by omega) (by omega)
    have e3 : ∀ g, a + r + ug n ≤ g → g < a + r + ug n + r → (pnt (pnt sh a 250 r) (a + r) 0 (ug n)) g = 254 := fun g h1 h2 => by rw [pnt_get, if_neg (by omega), pnt_get, if_neg (by omega)]; exact w g (by omega) (by omega)
    by_cases q : (254 : Int32) = v
    · rw [if_pos q]
      rw [cin_all (fun g h1 h2 => (e1 g h1 h2).trans q)] at c1
      rw [cin_all (fun g h1 h2 => (e2 g h1 h2).trans q)] at c2
      rw [cin_all (fun g h1 h2 => (e3 g h1 h2).trans q)] at c3
      omega
    · rw [if_neg q]
      rw [cin_none (fun g h1 h2 => by rw [e1 g h1 h2]; exact q)] at c1
      rw [cin_none (fun g h1 h2 => by rw [e2 g h1 h2]; exact q)] at c2
      rw [cin_none (fun g h1 h2 => by rw [e3 g h1 h2]; exact q)] at c3
      omega
  have B : ∀ v, (v = 250 ∨ v = 251 ∨ v = 253 ∨ v = 254) → cnt (paintL sh r a n) v = cnt (pnt (pnt (pnt sh a 250 r) (a + r) 0 (ug n)) (a + r + ug n) 251 r) v := fun v hv => by
    unfold paintL
    by_cases t : n % 8 = 0
    · rw [if_pos t]
    · rw [if_neg t]
      have c := cnt_upd (pnt (pnt (pnt sh a 250 r) (a + r) 0 (ug n)) (a + r + ug n) 251 r) (a + r + ug n - 1) (Int32.ofNat (n % 8)) v 16 (by omega)
      rw [show pnt (pnt (pnt sh a 250 r) (a + r) 0 (ug n)) (a + r + ug n) 251 r (a + r + ug n - 1) = 0 by rw [pnt_get, if_neg (by omega), pnt_get, if_pos (by omega)]] at c
      have small : ∀ n : Fin 8, ¬ Int32.ofNat n.val = 250 ∧ ¬ Int32.ofNat n.val = 251 ∧ ¬ Int32.ofNat n.val = 253 ∧ ¬ Int32.ofNat n.val = 254 := by decide
      obtain ⟨s1, s2, s3, s4⟩ := small ⟨n % 8, Nat.mod_lt _ (by omega)⟩
      have n1 : ¬ Int32.ofNat (n % 8) = v := by
        rcases hv with h | h | h | h <;> rw [h]
        · exact s1
        · exact s2
        · exact s3
        · exact s4
      have n2 : ¬ (0 : Int32) = v := by
        rcases hv with h | h | h | h <;> rw [h] <;> decide
      rw [if_neg n1, if_neg n2] at c
      exact c
  refine ⟨?_, ?_, ?_, ?_⟩
  · rw [B _ (Or.inl rfl)]
    have := A 250
    simpa using this
  · rw [B _ (Or.inr (Or.inl rfl))]
    have := A 251
    simpa using this
  · rw [B _ (Or.inr (Or.inr (Or.inl rfl)))]
    have := A 253
    simpa using this
  · rw [B _ (Or.inr (Or.inr (Or.inr rfl)))]
    have := A 254
    simpa using this
theorem iv_alloc {r : Nat} {ch : Nat → Option (Nat × Nat × Nat)} {lv q : List Nat} {rs rs' : List (Nat × Nat)} {own sh : Nat → Int32} {c a n : Nat} (I : Iv r ch lv q rs own sh) (hc : c < 32) (hx : ch c = none) (n1 : 1 ≤ n) (n64 : n ≤ 64) (h16 : a + span r n ≤ 16) (ca : ∀ g, a ≤ g → g < a + span r n → cov rs g) (S' : Sep rs') (cv : ∀ g, cov rs' g ↔ cov rs g ∧ ¬ (a ≤ g ∧ g < a + span r n)) (tt : tot rs' + span r n = tot rs) : Iv r (aupd ch c (some (a, n, 1))) (c :: lv) q rs' (pnt own a (Int32.ofNat c) (span r n)) (paintL sh r a n) := by
  obtain ⟨K1, K2, K3, K4, ⟨L1, L2, L3, L4⟩, Sp, m0, m1, m3, m4⟩ := id I
  have u1 : 1 ≤ ug n := (ug_ok ⟨n, by omega⟩).2.2.1 n1
  have W : ∀ g, a ≤ g → g < a + span r n → sh g = 254 := fun g h1 h2 => K4 g (by omega) ((K3 g (by omega)).mpr (ca g h1 h2))
  obtain ⟨p0, p1, p3, p4⟩ := paintL_cnt sh u1 h16 W
  have nl : c ∉ lv := fun z => by obtain ⟨y, hy, _⟩ := (L3 c).mp z; rw [hx] at hy; cases hy
  have nq : c ∉ q := fun z => by obtain ⟨y, hy, _⟩ := (L4 c).mp z; rw [hx] at hy; cases hy
  have out : ∀ d y, ch d = some y → ∀ g, y.1 ≤ g → g < y.1 + span r y.2.1 → ¬ (a ≤ g ∧ g < a + span r n) := fun d y hy g h1 h2 w => by
    obtain ⟨hd, _, _, y16, _, yk⟩ := K1 d y hy
    have e := (yk g h1 h2).1
    rw [(K3 g (by omega)).mpr (ca g w.1 w.2)] at e
    exact enc_ne (by omega) e.symm
  refine ⟨fun d y hy => ?_, fun g hg h => ?_, fun g hg => ?_, fun g hg h => ?_, ⟨List.nodup_cons.mpr ⟨nl, L1⟩, L2, fun d => ?_, fun d => ?_⟩, S', ?_, ?_, ?_, ?_⟩
  · unfold aupd at hy
    by_cases e : d = c
    · rw [if_pos e] at hy
      cases hy
      refine ⟨by omega, n1, n64, h16, Or.inl rfl, fun g h1 h2 => ?_⟩
      rw [pnt_get, paintL_get sh u1]
      dsimp only at h1 h2
      rw [if_pos ⟨h1, h2⟩, if_pos ⟨h1, h2⟩, e]
      exact ⟨rfl, rfl⟩
    · rw [if_neg e] at hy
      obtain ⟨hd, y1, y64, y16, yq, yk⟩ := K1 d y hy
      refine ⟨hd, y1, y64, y16, yq, fun g h1 h2 => ?_⟩
      rw [pnt_get, paintL_get sh u1, if_neg (out d y hy g h1 h2), if_neg (out d y hy g h1 h2)]
      exact yk g h1 h2
  · rw [pnt_get] at h
    by_cases w : a ≤ g ∧ g < a + span r n
    · refine ⟨c, (a, n, 1), ?_, ?_, w.1, w.2⟩
      · unfold aupd; rw [if_pos rfl]
      · rw [pnt_get, if_pos w]
    · rw [if_neg w] at h
      obtain ⟨d, y, hy, e, h1, h2⟩ := K2 g hg h
      refine ⟨d, y, ?_, ?_, h1, h2⟩
      · unfold aupd; rw [if_neg (fun z => by rw [z, hx] at hy; cases hy)]; exact hy
      · rw [pnt_get, if_neg w]; exact e
  · rw [pnt_get, cv g]
    by_cases w : a ≤ g ∧ g < a + span r n
    · rw [if_pos w]; exact ⟨fun z => absurd z (enc_ne (by omega)), fun z => absurd w z.2⟩
    · rw [if_neg w, K3 g hg]
      exact ⟨fun z => ⟨z, w⟩, fun z => z.1⟩
  · rw [pnt_get] at h
    by_cases w : a ≤ g ∧ g < a + span r n
    · rw [if_pos w] at h; exact absurd h (enc_ne (by omega))
    · rw [if_neg w] at h
      rw [paintL_get sh u1, if_neg w]; exact K4 g hg h
  · unfold aupd
    rw [List.mem_cons]
    by_cases e : d = c
    · rw [if_pos e]
      exact ⟨fun _ => ⟨_, rfl, rfl⟩, fun _ => Or.inl e⟩
    · rw [if_neg e, ← L3 d]
      exact ⟨fun z => z.elim (fun y => absurd y e) (fun y => y), fun z => Or.inr z⟩
  · unfold aupd
    by_cases e : d = c
    · rw [if_pos e, e]
      exact ⟨fun z => absurd z nq, fun ⟨y, hy, z⟩ => by cases hy; cases z⟩
    · rw [if_neg e]; exact L4 d
  · rw [p0, m0, List.length_cons]
    have : r * (lv.length + 1 + q.length) = r * (lv.length + q.length) + r := by rw [show lv.length + 1 + q.length = (lv.length + q.length) + 1 by omega, Nat.mul_succ]
    omega
  · rw [p1, m1, List.length_cons]
    have : r * (lv.length + 1 + q.length) = r * (lv.length + q.length) + r := by rw [show lv.length + 1 + q.length = (lv.length + q.length) + 1 by omega, Nat.mul_succ]
    omega
  · rw [p3, m3]
    unfold usum
    congr 1
    apply List.map_congr_left
    intro d hd
    unfold aupd
    rw [if_neg (fun e => by rw [e] at hd; exact nq hd)]
  · omega
theorem iv_free {r : Nat} {ch : Nat → Option (Nat × Nat × Nat)} {lv q : List Nat} {rs : List (Nat × Nat)} {own sh : Nat → Int32} {c a n : Nat} (I : Iv r ch lv q rs own sh) (hx : ch c = some (a, n, 1)) : Iv r (aupd ch c (some (a, n, 2))) (lv.erase c) (q ++ [c]) rs own (pnt sh (a + r) 253 (ug n)) ∧ (lv.erase c).length + 1 = lv.length := by
  obtain ⟨K1, K2, K3, K4, ⟨L1, L2, L3, L4⟩, Sp, m0, m1, m3, m4⟩ := id I
  obtain ⟨hc, x1, x64, x16, xq, xk⟩ := K1 c _ hx
  dsimp only at x1 x64 x16 xk
  have cl : c ∈ lv := (L3 c).mpr ⟨_, hx, rfl⟩
  have len : (lv.erase c).length + 1 = lv.length := by
    have := List.length_pos_of_mem cl
    rw [List.length_erase_of_mem cl]; omega
  have nq : c ∉ q := fun z => by obtain ⟨y, hy, e⟩ := (L4 c).mp z; rw [hx] at hy; cases hy; cases e
  have sp : span r n = 2 * r + ug n := rfl
  have out : ∀ d y, d ≠ c → ch d = some y → ∀ g, y.1 ≤ g → g < y.1 + span r y.2.1 → ¬ (a + r ≤ g ∧ g < a + r + ug n) := fun d y hd hy g h1 h2 w => hd (apart I hy hx ⟨h1, h2⟩ ⟨by dsimp only; omega, by dsimp only; omega⟩)
  have small : ∀ g, a + r ≤ g → g < a + r + ug n → sh g ≠ 250 ∧ sh g ≠ 251 ∧ sh g ≠ 253 ∧ sh g ≠ 254 := fun g h1 h2 => by
    rw [(xk g (by omega) (by omega)).2]
    unfold shv
    dsimp only
    rw [if_neg (by omega), if_pos h2, if_pos rfl]
    have sm : ∀ n : Fin 8, Int32.ofNat n.val ≠ 250 ∧ Int32.ofNat n.val ≠ 251 ∧ Int32.ofNat n.val ≠ 253 ∧ Int32.ofNat n.val ≠ 254 := by decide
    split
    · exact sm ⟨n % 8, Nat.mod_lt _ (by omega)⟩
    · decide
  have C := fun v => cnt_pnt sh (a + r) 253 v (ug n) (by omega)
  refine ⟨⟨fun d y hy => ?_, fun g hg h => ?_, K3, fun g hg h => ?_, ⟨List.Nodup.erase c L1, ?_, fun d => ?_, fun d => ?_⟩, Sp, ?_, ?_, ?_, ?_⟩, len⟩
  · unfold aupd at hy
    by_cases e : d = c
    · rw [if_pos e] at hy
      cases hy
      refine ⟨by omega, x1, x64, x16, Or.inr rfl, fun g h1 h2 => ?_⟩
      dsimp only at h1 h2
      rw [e]
      refine ⟨(xk g h1 h2).1, ?_⟩
      rw [pnt_get]
      have xs := (xk g h1 h2).2
      unfold shv at xs ⊢
      dsimp only at xs ⊢
      by_cases w : g < a + r
      · rw [if_pos w] at xs ⊢
        rw [if_neg (by omega)]; exact xs
      · rw [if_neg w] at xs ⊢
        by_cases z : g < a + r + ug n
        · rw [if_pos (by omega), if_pos z, if_neg (by decide)]
        · rw [if_neg z] at xs ⊢
          rw [if_neg (by omega)]; exact xs
    · rw [if_neg e] at hy
      obtain ⟨hd, y1, y64, y16, yq, yk⟩ := K1 d y hy
      refine ⟨hd, y1, y64, y16, yq, fun g h1 h2 => ?_⟩
      rw [pnt_get, if_neg (out d y e hy g h1 h2)]
      exact yk g h1 h2
  · obtain ⟨d, y, hy, e, h1, h2⟩ := K2 g hg h
    by_cases w : d = c
    · rw [w, hx] at hy
      cases hy
      exact ⟨c, (a, n, 2), by unfold aupd; rw [if_pos rfl], by rw [← w]; exact e, h1, h2⟩
    · exact ⟨d, y, by unfold aupd; rw [if_neg w]; exact hy, e, h1, h2⟩
  · rw [pnt_get, if_neg (fun w => by
      have e := (xk g (by omega) (by omega)).1
      rw [h] at e
      exact enc_ne (by omega) e.symm)]
    exact K4 g hg h
  · rw [List.nodup_append]
    exact ⟨L2, by simp, fun x hx y hy => by rw [List.mem_singleton.mp hy]; intro e; rw [e] at hx; exact nq hx⟩
  · rw [List.Nodup.mem_erase_iff L1, L3 d]
    unfold aupd
    by_cases e : d = c
    · rw [if_pos e]
      exact ⟨fun z => absurd e z.1, fun ⟨y, hy, z⟩ => by cases hy; cases z⟩
    · rw [if_neg e]
      exact ⟨fun z => z.2, fun z => ⟨e, z⟩⟩
  · rw [List.mem_append, List.mem_singleton]
    unfold aupd
    by_cases e : d = c
    · rw [if_pos e]
      exact ⟨fun _ => ⟨_, rfl, rfl⟩, fun _ => Or.inr e⟩
    · rw [if_neg e, ← L4 d]
      exact ⟨fun z => z.elim (fun y => y) (fun y => absurd y e), fun z => Or.inl z⟩
  · have c1 := C 250
    rw [cin_none (fun g h1 h2 => (small g h1 h2).1), if_neg (by decide)] at c1
    rw [List.length_append, List.length_singleton, show (lv.erase c).length + (q.length + 1) = lv.length + q.length by omega, ← m0]; omega
  · have c1 := C 251
    rw [cin_none (fun g h1 h2 => (small g h1 h2).2.1), if_neg (by decide)] at c1
    rw [List.length_append, List.length_singleton, show (lv.erase c).length + (q.length + 1) = lv.length + q.length by omega, ← m1]; omega
  · have c1 := C 253
    rw [cin_none (fun g h1 h2 => (small g h1 h2).2.2.1), if_pos rfl, m3] at c1
    have e : usum (aupd ch c (some (a, n, 2))) (q ++ [c]) = usum ch q + ug n := by
      unfold usum
      rw [List.map_append, List.sum_append]
      have e1 : (q.map fun d => ug (oN (aupd ch c (some (a, n, 2)) d))) = q.map fun d => ug (oN (ch d)) := by
        apply List.map_congr_left
        intro d hd
        unfold aupd
        rw [if_neg (fun e => by rw [e] at hd; exact nq hd)]
      rw [e1]
      congr 1
      simp [aupd, oN]
    rw [e]; omega
  · have c1 := C 254
    rw [cin_none (fun g h1 h2 => (small g h1 h2).2.2.2), if_neg (by decide)] at c1
    omega
def RI (r B : Nat) (s : S) (ch : Nat → Option (Nat × Nat × Nat)) (lv q : List Nat) (rs : List (Nat × Nat)) (own sh : Nat → Int32) : Prop :=
  gI s 0 = 16 ∧ gI s 1 = Int32.ofNat r ∧ gI s 2 = Int32.ofNat B ∧ gI s 3 = 128 ∧ (gA s 0).length = 256 ∧ Rf s 1 sh ∧ Rf s 2 own ∧ RC s ch ∧ RQ s q ∧ gI s 6 = Int32.ofNat (8 * (usum ch q + 2 * r * q.length)) ∧ RR s rs ∧ gI s 8 = Int32.ofNat lv.length ∧ Iv r ch lv q rs own sh
theorem cnt_le (f : Nat → Int32) (v : Int32) : cnt f v ≤ 16 := by
  unfold cnt; exact Nat.le_trans List.countP_le_length (by simp)
theorem iv_bound {r : Nat} (hr : 1 ≤ r) {ch : Nat → Option (Nat × Nat × Nat)} {lv q : List Nat} {rs : List (Nat × Nat)} {own sh : Nat → Int32} (I : Iv r ch lv q rs own sh) : lv.length + q.length ≤ 16 ∧ usum ch q ≤ 16 := by
  obtain ⟨K1, K2, K3, K4, _, Sp, m0, m1, m3, m4⟩ := I
  have c0 := cnt_le sh 250
  have c3 := cnt_le sh 253
  have : 1 * (lv.length + q.length) ≤ r * (lv.length + q.length) := Nat.mul_le_mul_right _ hr
  omega
theorem sub_nat {a b : Nat} (h : b ≤ a) : Int32.ofNat a - Int32.ofNat b = Int32.ofNat (a - b) := by
  have := ofNat_add' (a - b) b
  rw [show a - b + b = a by omega] at this
  rw [← this]; simp
theorem nodup_sub : ∀ {l m : List Nat}, l.Nodup → (∀ x ∈ l, x ∈ m) → l.length ≤ m.length
  | [], _, _, _ => by simp
  | x :: l, m, nd, h => by
    have hx := h x List.mem_cons_self
    have h1 := nodup_sub (l := l) (m := m.erase x) (List.nodup_cons.mp nd).2 (fun y hy => by
      have hy' := h y (List.mem_cons_of_mem _ hy)
      have ne : y ≠ x := fun e => (List.nodup_cons.mp nd).1 (e ▸ hy)
      exact (List.mem_erase_of_ne ne).mpr hy')
    rw [List.length_erase_of_mem hx] at h1
    have := List.length_pos_of_mem hx
    rw [List.length_cons]
    omega
theorem slot_loop {r B : Nat} {lv q : List Nat} {s : S} {ch : Nat → Option (Nat × Nat × Nat)} {rs : List (Nat × Nat)} {own sh : Nat → Int32} (h : RI r B s ch lv q rs own sh) : ∀ m j N, j + m = 32 → m < N → (∀ i, i < j → ch i ≠ none) → (∀ i, i < 32 → ch i ≠ none) ∨ ∃ c, c < 32 ∧ ch c = none ∧ k_findUnusedSlot_2 N (Int32.ofNat j) s = some (Int32.ofNat c)
  | _, _, 0, _, h, _ => by omega
  | 0, j, N + 1, hj, _, b => Or.inl (fun i hi => b i (by omega))
  | m + 1, j, N + 1, hj, hN, b => by
    obtain ⟨g0, g1, g2, g3, l0, R1, R2, Rc, Rq, g6, Rr, g8, I⟩ := id h
    obtain ⟨_, _, a5⟩ := Rc.2.2.2 j (by omega)
    rw [k_findUnusedSlot_2, if_pos ((lt_lit (m := 32) (by omega) (by decide)).mpr (by omega)), ix_ofNat _ (by omega), a5, Option.bind_some]
    cases e : ch j with
    | none => exact Or.inr ⟨j, by omega, e, by rw [if_pos (show Int32.ofNat (oQ none) = 0 from rfl)]⟩
    | some x =>
      obtain ⟨_, _, _, _, xq, _⟩ := I.1 j x e
      have q0 : oQ (some x) = x.2.2 := rfl
      rw [if_neg (show ¬ Int32.ofNat (oQ (some x)) = 0 from fun z => by
        have := (nat_eq (y := 0) (show oQ (some x) < 1000 by rw [q0]; omega) (by omega)).mp z
        rw [q0] at this; omega), ofNat_succ]
      refine slot_loop h m (j + 1) N (by omega) (by omega) ?_
      intro i hi
      by_cases w : i = j
      · rw [w, e]; exact fun z => by cases z
      · exact b i (by omega)
theorem slot_free {r B : Nat} (hr : 1 ≤ r) {lv q : List Nat} {s : S} {ch : Nat → Option (Nat × Nat × Nat)} {rs : List (Nat × Nat)} {own sh : Nat → Int32} (h : RI r B s ch lv q rs own sh) : ∃ c, c < 32 ∧ ch c = none ∧ k_findUnusedSlot s = some (Int32.ofNat c) := by
  obtain ⟨g0, g1, g2, g3, l0, R1, R2, Rc, Rq, g6, Rr, g8, I⟩ := id h
  rcases slot_loop h 32 0 BIG (by omega) (by unfold BIG; omega) (fun i hi => by omega) with z | z
  · exfalso
    obtain ⟨b1, b2⟩ := iv_bound hr I
    obtain ⟨K1, K2, K3, K4, ⟨L1, L2, L3, L4⟩, _⟩ := I
    have := nodup_sub (l := List.range 32) (m := lv ++ q) List.nodup_range (fun x hx => by
      have hx' := List.mem_range.mp hx
      cases e : ch x with
      | none => exact absurd e (z x hx')
      | some y =>
        obtain ⟨_, _, _, _, yq, _⟩ := K1 x y e
        rcases yq with w | w
        · exact List.mem_append_left _ ((L3 x).mpr ⟨y, e, w⟩)
        · exact List.mem_append_right _ ((L4 x).mpr ⟨y, e, w⟩))
    rw [List.length_range, List.length_append] at this
    omega
  · exact z
theorem create_ok {r B : Nat} (hr : 1 ≤ r) (hr3 : r ≤ 3) {lv q : List Nat} {s : S} {ch : Nat → Option (Nat × Nat × Nat)} {rs : List (Nat × Nat)} {own sh : Nat → Int32} {c a n : Nat} (hc : c < 32) (n1 : 1 ≤ n) (n64 : n ≤ 64) (h16 : a + span r n ≤ 16) (g0 : gI s 0 = 16) (g1 : gI s 1 = Int32.ofNat r) (g3 : gI s 3 = 128) (l0 : (gA s 0).length = 256) (R1 : Rf s 1 sh) (R2 : Rf s 2 own) (Rc : RC s ch) (g8 : gI s 8 = Int32.ofNat lv.length) (hlv : lv.length ≤ 16) : ∃ s', k_createChunk (Int32.ofNat c) (Int32.ofNat a) (Int32.ofNat n) s = some (Int32.ofNat (8 * (a + r)), s') ∧ Fx [8] [] [0, 1, 2, 3, 4, 5] [] s s' ∧ Rf s' 1 (paintL sh r a n) ∧ Rf s' 2 (pnt own a (Int32.ofNat c) (span r n)) ∧ RC s' (aupd ch c (some (a, n, 1))) ∧ gI s' 8 = Int32.ofNat (lv.length + 1) ∧ (gA s' 0).length = 256 := by
  obtain ⟨rc3, rc4, rc5, rcg⟩ := id Rc
  obtain ⟨ua, ub, uc, ud⟩ := ug_ok ⟨n, by omega⟩
  dsimp only at ua ub uc ud
  have u1 := uc n1
  have sp : span r n = 2 * r + ug n := rfl
  have nb : nar .byte (1 : Int32) = 1 := by decide
  obtain ⟨t, ht⟩ : ∃ t, t = sA (sA (sA s 3 ((gA s 3).set c (Int32.ofNat a))) 4 ((gA s 4).set c (Int32.ofNat n))) 5 ((gA s 5).set c 1) := ⟨_, rfl⟩
  have tA : ∀ k, k ≠ 3 → k ≠ 4 → k ≠ 5 → gA t k = gA s k := fun k x y z => by rw [ht]; simp only [gA_sA]; rw [if_neg z, if_neg y, if_neg x]
  have tI : ∀ k, gI t k = gI s k := fun k => by rw [ht]; simp only [gI_sA]
  have Ft : Fx [8] [] [0, 1, 2, 3, 4, 5] [] s t := by
    have F0 : Fx [8] [] [0, 1, 2, 3, 4, 5] [] s s := Fx.refl ..
    rw [ht]; exact ((F0.sA (by simp)).sA (by simp)).sA (by simp)
  have Rt : RC t (aupd ch c (some (a, n, 1))) := Rc.put hc (some (a, n, 1)) (by rw [ht]; simp [gA_sA, oS]) (by rw [ht]; simp [gA_sA, oN]) (by rw [ht]; simp [gA_sA, oQ])
  obtain ⟨t3, t4, t5⟩ := Rt.2.2.2 c hc
  have uu : aupd ch c (some (a, n, 1)) c = some (a, n, 1) := by unfold aupd; rw [if_pos rfl]
  rw [uu] at t3 t4 t5
  change (gA t 3)[c]? = some (Int32.ofNat a) at t3
  change (gA t 4)[c]? = some (Int32.ofNat n) at t4
  have tg1 : gI t 1 = Int32.ofNat r := by rw [tI]; exact g1
  obtain ⟨w, ew, Fw, Rw⟩ := owner_ok (a := a) (k := span r n) h16 (Int32.ofNat c) (s := t) (by rw [tI]; exact g0) (R2.fx (tA 2 (by decide) (by decide) (by decide)))
  have wg0 : gI w 0 = 16 := by rw [Fw.1 0 (by simp), tI]; exact g0
  have wg1 : gI w 1 = Int32.ofNat r := by rw [Fw.1 1 (by simp)]; exact tg1
  have Rcw : RC w (aupd ch c (some (a, n, 1))) := Rt.fx (Fw.2.2.1 3 (by simp)) (Fw.2.2.1 4 (by simp)) (Fw.2.2.1 5 (by simp))
  obtain ⟨p1, e1, F1, r1⟩ := paint_ok (a := a) (k := r) (by omega) 250 wg0 ((R1.fx (tA 1 (by decide) (by decide) (by decide))).fx (Fw.2.2.1 1 (by simp)))
  obtain ⟨p2, e2, F2, r2⟩ := paint_ok (a := a + r) (k := ug n) (by omega) 0 (s := p1) (by rw [F1.1 0 (by simp)]; exact wg0) r1
  obtain ⟨p3, e3, F3, r3⟩ := paint_ok (a := a + r + ug n) (k := r) (by omega) 251 (s := p2) (by rw [F2.1 0 (by simp), F1.1 0 (by simp)]; exact wg0) r2
  have F13 : Fx [] [] [1] [] w p3 := (F1.trans F2).trans F3
  have ugr := ugran_ok Rcw wg1 hc
  rw [uu] at ugr
  change k_userGranule (Int32.ofNat c) w = some (Int32.ofNat (a + r)) at ugr
  have w3 : (gA w 3)[c]? = some (Int32.ofNat a) := by rw [Fw.2.2.1 3 (by simp)]; exact t3
  have w4 : (gA w 4)[c]? = some (Int32.ofNat n) := by rw [Fw.2.2.1 4 (by simp)]; exact t4
  have rg : k_rightGranule (Int32.ofNat c) w = some (Int32.ofNat (a + r + ug n)) := by
    unfold k_rightGranule k_userGranulesFor
    rw [valid_yes hc, if_neg (by decide), ix_ofNat _ (by omega), w4, Option.bind_some, ugr, Option.bind_some, ua, Option.bind_some, ofNat_add']
  have pl : ∃ p4, k_paintLiveChunk (Int32.ofNat c) w = some p4 ∧ Fx [] [] [1] [] w p4 ∧ Rf p4 1 (paintL sh r a n) := by
    unfold k_paintLiveChunk k_userGranulesFor paintL
    rw [ix_ofNat _ (by omega), w3, Option.bind_some, ugr, Option.bind_some, rg, Option.bind_some, ix_ofNat _ (by omega), w4, Option.bind_some, ua, Option.bind_some, wg1, e1, Option.bind_some, e2, Option.bind_some, F2.1 1 (by simp), F1.1 1 (by simp), wg1, e3, Option.bind_some, ud]
    by_cases z : n % 8 = 0
    · rw [if_pos (show Int32.ofNat (n % 8) = 0 by rw [z]; rfl), if_pos z]
      exact ⟨p3, rfl, F13, r3⟩
    · rw [if_neg (show ¬ Int32.ofNat (n % 8) = 0 from fun y => z ((nat_eq (y := 0) (by omega) (by omega)).mp y)), if_neg z, ofNat_add', show Int32.ofNat (a + r + ug n) - 1 = Int32.ofNat (a + r + ug n - 1) from sub_nat (b := 1) (by omega), if_neg (ofNat_nonneg (by omega)), F13.1 0 (by simp), wg0, if_pos ((lt_lit (m := 16) (by omega) (by decide)).mpr (by omega)), st_ofNat _ _ (by omega) (by rw [r3.1]; omega), Option.bind_some]
      exact ⟨_, rfl, F13.sA (by simp), r3.put (by omega) _⟩
  obtain ⟨p4, e4, F4, r4⟩ := pl
  have Rc4 : RC p4 (aupd ch c (some (a, n, 1))) := Rcw.fx (F4.2.2.1 3 (by simp)) (F4.2.2.1 4 (by simp)) (F4.2.2.1 5 (by simp))
  have pg1 : gI p4 1 = Int32.ofNat r := by rw [F4.1 1 (by simp)]; exact wg1
  have ug4 := ugran_ok Rc4 pg1 hc
  rw [uu] at ug4
  change k_userGranule (Int32.ofNat c) p4 = some (Int32.ofNat (a + r)) at ug4
  have m8 := mul8 ⟨a + r, by omega⟩
  dsimp only at m8
  have p44 : (gA p4 4)[c]? = some (Int32.ofNat n) := by rw [F4.2.2.1 4 (by simp)]; exact w4
  obtain ⟨z, ez, Fz, lz⟩ := zero_loop (8 * (a + r)) n n 0 p4 BIG (by omega) n64 (by omega) (by unfold BIG; omega) (by rw [F4.1 3 (by simp), Fw.1 3 (by simp), tI]; exact g3) (by rw [F4.2.2.1 0 (by simp), Fw.2.2.1 0 (by simp), tA 0 (by decide) (by decide) (by decide)]; exact l0)
  have ze : k_zeroRequested (Int32.ofNat c) p4 = some z := by
    unfold k_zeroRequested k_userAddressOf
    rw [ug4, Option.bind_some, Option.bind_some, m8, ix_ofNat _ (by omega), p44, Option.bind_some]
    exact ez
  have z8 : gI z 8 = Int32.ofNat lv.length := by rw [Fz.1 8 (by simp), F4.1 8 (by simp), Fw.1 8 (by simp), tI]; exact g8
  have Rcz : RC (sI z 8 (gI z 8 + 1)) (aupd ch c (some (a, n, 1))) := Rc4.fx (by rw [gA_sI]; exact Fz.2.2.1 3 (by simp)) (by rw [gA_sI]; exact Fz.2.2.1 4 (by simp)) (by rw [gA_sI]; exact Fz.2.2.1 5 (by simp))
  have ugz := ugran_ok Rcz (r := r) (by rw [gI_sI, if_neg (by decide), Fz.1 1 (by simp)]; exact pg1) hc
  rw [uu] at ugz
  change k_userGranule (Int32.ofNat c) _ = some (Int32.ofNat (a + r)) at ugz
  refine ⟨sI z 8 (gI z 8 + 1), ?_, ?_, ?_, ?_, Rcz, ?_, ?_⟩
  · unfold k_createChunk k_userAddressOf
    rw [st_ofNat _ _ (by omega) (by omega), Option.bind_some, st_ofNat _ _ (by omega) (by omega), Option.bind_some, nb, st_ofNat _ _ (by omega) (by omega), Option.bind_some, ← ht, span_ok hr3 tg1 n64, Option.bind_some, ew, Option.bind_some, e4, Option.bind_some, ze, Option.bind_some, ugz, Option.bind_some, Option.bind_some, m8]
  · exact ((Ft.trans (Fw.mono (by simp) (by simp) (by simp) (by simp))).trans ((F4.mono (by simp) (by simp) (by simp) (by simp)).trans (Fz.mono (by simp) (by simp) (by simp) (by simp)))).sI (by simp)
  · exact r4.fx (by rw [gA_sI]; exact Fz.2.2.1 1 (by simp))
  · exact (Rw.fx (F4.2.2.1 2 (by simp))).fx (by rw [gA_sI]; exact Fz.2.2.1 2 (by simp))
  · rw [gI_sI, if_pos rfl, z8, ofNat_succ]
  · rw [gA_sI]; exact lz
theorem shr3 : ∀ b : Fin 128, Int32.ofNat b.val >>> ((3 : Int32) &&& 31) = Int32.ofNat (b.val / 8) ∧ Int32.ofNat b.val &&& 7 = Int32.ofNat (b.val % 8) := by decide +kernel
/-- an address of the arena -/
theorem addr_cases (v : Int32) : v < 0 ∨ (¬ v < 0 ∧ ¬ v < 128) ∨ ∃ b, b < 128 ∧ v = Int32.ofNat b := by
  by_cases q : v < 0
  · exact Or.inl q
  · by_cases w : v < 128
    · exact Or.inr (Or.inr ⟨v.toNatClampNeg, clamp_lt (n := 128) q w (by omega), (eq_ofNat q).1⟩)
    · exact Or.inr (Or.inl ⟨q, w⟩)
theorem slotU_ok {r B : Nat} (hr : 1 ≤ r) (hr3 : r ≤ 3) {lv q : List Nat} {s : S} {ch : Nat → Option (Nat × Nat × Nat)} {rs : List (Nat × Nat)} {own sh : Nat → Int32} (h : RI r B s ch lv q rs own sh) (v : Int32) : (k_slotForUserAddress v s = some (-1) ∧ ∀ c x, ch c = some x → v ≠ Int32.ofNat (8 * (x.1 + r))) ∨ ∃ c x, ch c = some x ∧ v = Int32.ofNat (8 * (x.1 + r)) ∧ k_slotForUserAddress v s = some (Int32.ofNat c) := by
  obtain ⟨g0, g1, g2, g3, l0, R1, R2, Rc, Rq, g6, Rr, g8, I⟩ := id h
  have Iall := I
  obtain ⟨K1, K2, K3, K4, ⟨L1, L2, L3, L4⟩, Sp, _⟩ := I
  have pos : ∀ c x, ch c = some x → 8 * (x.1 + r) < 128 := fun c x hx => by
    obtain ⟨_, x1, x64, x16, _, _⟩ := K1 c x hx
    have := (ug_ok ⟨x.2.1, by omega⟩).2.2.1 x1
    dsimp only at this
    unfold span at x16
    omega
  unfold k_slotForUserAddress
  rw [g3]
  rcases addr_cases v with w | ⟨w1, w2⟩ | ⟨b, hb, rfl⟩
  · left
    rw [if_pos w]
    refine ⟨rfl, fun c x hx e => ?_⟩
    rw [e] at w
    exact ofNat_nonneg (by have := pos c x hx; omega) w
  · left
    rw [if_neg w1, if_neg w2]
    refine ⟨rfl, fun c x hx e => w2 ?_⟩
    rw [e]
    have := pos c x hx
    exact (lt_lit (m := 128) (by omega) (by decide)).mpr this
  · obtain ⟨e1, e2⟩ := shr3 ⟨b, hb⟩
    dsimp only at e1 e2
    rw [if_neg (ofNat_nonneg (by omega)), if_pos ((lt_lit (m := 128) (by omega) (by decide)).mpr hb), e2, e1]
    by_cases z : b % 8 = 0
    · rw [if_pos (show Int32.ofNat (b % 8) = 0 by rw [z]; rfl), ix_ofNat _ (by omega), R2.2 (b / 8) (by omega), Option.bind_some]
      by_cases o : own (b / 8) = -1
      · left
        rw [o, show k_validSlot (-1) = 0 by decide, if_pos rfl]
        refine ⟨rfl, fun c x hx e => ?_⟩
        obtain ⟨hc, x1, x64, x16, xq, xk⟩ := K1 c x hx
        have px := pos c x hx
        have e' := (nat_eq (by omega) (by omega)).mp e
        have u1 := (ug_ok ⟨x.2.1, by omega⟩).2.2.1 x1
        dsimp only at u1
        have := (xk (x.1 + r) (by omega) (by unfold span; omega)).1
        rw [show x.1 + r = b / 8 by omega, o] at this
        exact enc_ne (by omega) this.symm
      · obtain ⟨c, x, hx, eo, h1, h2⟩ := K2 (b / 8) (by omega) o
        obtain ⟨hc, x1, x64, x16, xq, xk⟩ := K1 c x hx
        have q5 := (Rc.2.2.2 c hc).2.2
        rw [hx] at q5
        have q0 : oQ (some x) = x.2.2 := rfl
        have ugr := ugran_ok Rc g1 hc
        rw [hx] at ugr
        have s0 : oS (some x) = x.1 := rfl
        rw [eo, valid_yes hc, if_neg (by decide), ix_ofNat _ (by omega), q5, Option.bind_some, if_neg (show ¬ Int32.ofNat (oQ (some x)) = 0 from fun y => by
          have := (nat_eq (y := 0) (show oQ (some x) < 1000 by rw [q0]; omega) (by omega)).mp y
          rw [q0] at this; omega), ugr, Option.bind_some, s0]
        by_cases y : x.1 + r = b / 8
        · right
          rw [if_pos (by rw [y])]
          exact ⟨c, x, hx, by congr 1; omega, rfl⟩
        · left
          rw [if_neg (fun w => y ((nat_eq (by omega) (by omega)).mp w))]
          refine ⟨rfl, fun d y' hy e => ?_⟩
          have py := pos d y' hy
          have e' := (nat_eq (by omega) (by omega)).mp e
          obtain ⟨hd, y1, y64, y16, yq, yk⟩ := K1 d y' hy
          have u1 := (ug_ok ⟨y'.2.1, by omega⟩).2.2.1 y1
          dsimp only at u1
          have dc := apart Iall hy hx (g := b / 8) ⟨by omega, by unfold span; omega⟩ ⟨h1, h2⟩
          rw [dc, hx] at hy
          cases hy
          exact y (by omega)
    · left
      rw [if_neg (show ¬ Int32.ofNat (b % 8) = 0 from fun y => z ((nat_eq (y := 0) (by omega) (by omega)).mp y))]
      refine ⟨rfl, fun c x hx e => ?_⟩
      have px := pos c x hx
      have e' := (nat_eq (by omega) (by omega)).mp e
      omega
theorem stateQ {r B : Nat} {lv q : List Nat} {s : S} {ch : Nat → Option (Nat × Nat × Nat)} {rs : List (Nat × Nat)} {own sh : Nat → Int32} (h : RI r B s ch lv q rs own sh) {c : Nat} {x : Nat × Nat × Nat} (hx : ch c = some x) : k_isQuarantined (Int32.ofNat c) s = some (if x.2.2 = 2 then 1 else 0) ∧ k_isLive (Int32.ofNat c) s = some (if x.2.2 = 1 then 1 else 0) := by
  obtain ⟨g0, g1, g2, g3, l0, R1, R2, Rc, Rq, g6, Rr, g8, I⟩ := id h
  obtain ⟨hc, x1, x64, x16, xq, xk⟩ := I.1 c x hx
  have q5 := (Rc.2.2.2 c hc).2.2
  rw [hx] at q5
  change (gA s 5)[c]? = some (Int32.ofNat x.2.2) at q5
  unfold k_isQuarantined k_isLive
  rw [valid_yes hc, if_neg (show ¬ (1 : Int32) = 0 by decide), if_neg (show ¬ (1 : Int32) = 0 by decide), ix_ofNat _ (by omega), q5, Option.bind_some, Option.bind_some]
  rcases xq with w | w
  · rw [w]; exact ⟨rfl, rfl⟩
  · rw [w]; exact ⟨rfl, rfl⟩
theorem RI.fx {r B : Nat} {lv q : List Nat} {s t : S} {ch : Nat → Option (Nat × Nat × Nat)} {rs : List (Nat × Nat)} {own sh : Nat → Int32} (h : RI r B s ch lv q rs own sh) (F : Fx [10, 11] [9] [0] [] s t) (l0 : (gA t 0).length = 256) : RI r B t ch lv q rs own sh := by
  obtain ⟨g0, g1, g2, g3, _, R1, R2, Rc, Rq, g6, Rr, g8, I⟩ := h
  exact ⟨by rw [F.1 0 (by simp)]; exact g0, by rw [F.1 1 (by simp)]; exact g1, by rw [F.1 2 (by simp)]; exact g2, by rw [F.1 3 (by simp)]; exact g3, l0, R1.fx (F.2.2.1 1 (by simp)), R2.fx (F.2.2.1 2 (by simp)), Rc.fx (F.2.2.1 3 (by simp)) (F.2.2.1 4 (by simp)) (F.2.2.1 5 (by simp)), Rq.fx (F.2.2.1 6 (by simp)) (F.1 5 (by simp)) (F.1 4 (by simp)), by rw [F.1 6 (by simp)]; exact g6, Rr.fx (F.2.2.1 7 (by simp)) (F.2.2.1 8 (by simp)) (F.1 7 (by simp)), by rw [F.1 8 (by simp)]; exact g8, I⟩
def kb (sh : Nat → Int32) (v : Int32) : Int32 := if v < 0 then 5 else if v < 128 then k_kindForShadow (sh (v.toNatClampNeg / 8)) (v &&& 7) else 5
theorem byteKind_ok {s : S} {sh : Nat → Int32} (g3 : gI s 3 = 128) (R1 : Rf s 1 sh) (v : Int32) : k_byteKind v s = some (kb sh v) := by
  unfold k_byteKind kb
  rw [g3]
  by_cases q : v < 0
  · rw [if_pos q, if_pos q]
  · rw [if_neg q, if_neg q]
    by_cases w : v < 128
    · rw [if_pos w, if_pos w]
      have c := clamp_lt (n := 128) q w (by omega)
      have e := (eq_ofNat q).1
      have s3 := (shr3 ⟨v.toNatClampNeg, c⟩).1
      dsimp only at s3
      rw [← e] at s3
      rw [s3, ix_ofNat _ (by omega), R1.2 _ (by omega), Option.bind_some]
    · rw [if_neg w, if_neg w]
theorem acc_loop {s : S} {sh : Nat → Int32} (g3 : gI s 3 = 128) (R1 : Rf s 1 sh) (v : Int32) {n : Nat} (hn : n ≤ 8) : ∀ m j N, j + m = n → m < N → (∀ i, i < j → kb sh (v + Int32.ofNat i) = 0) → (k_checkAccess_2 N v (Int32.ofNat n) (Int32.ofNat j) s = some (0, s) ∧ ∀ i, i < n → kb sh (v + Int32.ofNat i) = 0) ∨ ∃ i, i < n ∧ kb sh (v + Int32.ofNat i) ≠ 0 ∧ (∀ i', i' < i → kb sh (v + Int32.ofNat i') = 0) ∧ k_checkAccess_2 N v (Int32.ofNat n) (Int32.ofNat j) s = some (kb sh (v + Int32.ofNat i), k_recordError (v + Int32.ofNat i) s)
  | _, _, 0, _, h, _ => by omega
  | 0, j, N + 1, hj, _, b => by
    have : j = n := by omega
    subst this
    exact Or.inl ⟨by rw [k_checkAccess_2, if_neg (by rw [ofNat_lt (by omega) (by omega)]; omega)], b⟩
  | m + 1, j, N + 1, hj, hN, b => by
    rw [k_checkAccess_2, if_pos (by rw [ofNat_lt (by omega) (by omega)]; omega), if_pos ((lt_lit (m := 8) (by omega) (by decide)).mpr (by omega)), byteKind_ok g3 R1, Option.bind_some]
    by_cases q : kb sh (v + Int32.ofNat j) = 0
    · rw [if_pos q, ofNat_succ]
      refine acc_loop g3 R1 v hn m (j + 1) N (by omega) (by omega) ?_
      intro i hi
      by_cases w : i = j
      · rw [w]; exact q
      · exact b i (by omega)
    · rw [if_neg q]
      exact Or.inr ⟨j, by omega, q, b, rfl⟩
theorem addr_ix {s : S} (l0 : (gA s 0).length = 256) (v : Int32) (h0 : ¬ v < 0) (h1 : v < 128) : ∃ x, ix (gA s 0) v = some x := by
  have c := clamp_lt (n := 128) h0 h1 (by omega)
  rw [(eq_ofNat h0).1]
  exact ix_some _ (by omega) (by omega)
theorem read_loop {s : S} (g3 : gI s 3 = 128) (l0 : (gA s 0).length = 256) (v : Int32) {n : Nat} (hn : n ≤ 8) : ∀ m j N (x : Int64), j + m = n → m < N → ∃ y, k_readLittleEndian_5 N v (Int32.ofNat n) x (Int32.ofNat j) s = some y
  | _, _, 0, _, _, h => by omega
  | 0, j, N + 1, x, hj, _ => by
    have : j = n := by omega
    subst this
    exact ⟨x, by rw [k_readLittleEndian_5, if_neg (by rw [ofNat_lt (by omega) (by omega)]; omega)]⟩
  | m + 1, j, N + 1, x, hj, hN => by
    rw [k_readLittleEndian_5, if_pos (by rw [ofNat_lt (by omega) (by omega)]; omega), if_pos ((lt_lit (m := 8) (by omega) (by decide)).mpr (by omega)), g3, ofNat_succ]
    by_cases q : v + Int32.ofNat j < 0
    · rw [if_pos q]; exact read_loop g3 l0 v hn m (j + 1) N x (by omega) (by omega)
    · rw [if_neg q]
      by_cases w : v + Int32.ofNat j < 128
      · obtain ⟨y, hy⟩ := addr_ix l0 _ q w
        rw [if_pos w, hy, Option.bind_some]
        exact read_loop g3 l0 v hn m (j + 1) N _ (by omega) (by omega)
      · rw [if_neg w]; exact read_loop g3 l0 v hn m (j + 1) N x (by omega) (by omega)
theorem write_loop (v : Int32) (x : Int64) {n : Nat} (hn : n ≤ 8) : ∀ m j N s, j + m = n → m < N → gI s 3 = 128 → (gA s 0).length = 256 → ∃ s', k_writeLittleEndian_3 N v (Int32.ofNat n) x (Int32.ofNat j) s = some s' ∧ Fx [] [] [0] [] s s' ∧ (gA s' 0).length = 256
  | _, _, 0, _, _, h, _, _ => by omega
  | 0, j, N + 1, s, hj, _, _, l0 => by
    have : j = n := by omega
    subst this
    exact ⟨s, by rw [k_writeLittleEndian_3, if_neg (by rw [ofNat_lt (by omega) (by omega)]; omega)], Fx.refl .., l0⟩
  | m + 1, j, N + 1, s, hj, hN, g3, l0 => by
    rw [k_writeLittleEndian_3, if_pos (by rw [ofNat_lt (by omega) (by omega)]; omega), if_pos ((lt_lit (m := 8) (by omega) (by decide)).mpr (by omega)), g3, ofNat_succ]
    by_cases q : v + Int32.ofNat j < 0
    · rw [if_pos q]; exact write_loop v x hn m (j + 1) N s (by omega) (by omega) g3 l0
    · rw [if_neg q]
      by_cases w : v + Int32.ofNat j < 128
      · have c := clamp_lt (n := 128) q w (by omega)
        rw [if_pos w, st_nat _ q (by omega), Option.bind_some]
        obtain ⟨s', e, F, l⟩ := write_loop v x hn m (j + 1) N (sA s 0 ((gA s 0).set (v + Int32.ofNat j).toNatClampNeg (nar .byte ((((XT.ushrL x ((8 : Int32) * Int32.ofNat j)) &&& (255 : Int64)).toInt32).toInt8.toInt32)))) (by omega) (by omega) (by rw [gI_sA]; exact g3) (by rw [gA_sA, if_pos rfl, List.length_set]; exact l0)
        exact ⟨s', e, ((Fx.refl ..).sA (by simp)).trans F, l⟩
      · rw [if_neg w]; exact write_loop v x hn m (j + 1) N s (by omega) (by omega) g3 l0
/-- what an access of n bytes at v answers: the state behind it shows the same arena -/
theorem load_ok {r B : Nat} {lv q : List Nat} {s : S} {ch : Nat → Option (Nat × Nat × Nat)} {rs : List (Nat × Nat)} {own sh : Nat → Int32} (h : RI r B s ch lv q rs own sh) (v : Int32) {n : Nat} (hn : n = 1 ∨ n = 2 ∨ n = 4 ∨ n = 8) : (∃ y, k_load v (Int32.ofNat n) s = some (0, sL s 9 y) ∧ k_readLittleEndian v (Int32.ofNat n) s = some y ∧ ∀ i, i < n → kb sh (v + Int32.ofNat i) = 0) ∨ ∃ i, i < n ∧ kb sh (v + Int32.ofNat i) ≠ 0 ∧ (∀ i', i' < i → kb sh (v + Int32.ofNat i') = 0) ∧ k_load v (Int32.ofNat n) s = some (kb sh (v + Int32.ofNat i), k_recordError (v + Int32.ofNat i) s) := by
  obtain ⟨g0, g1, g2, g3, l0, R1, R2, Rc, Rq, g6, Rr, g8, I⟩ := h
  have sz : k_isAccessSize (Int32.ofNat n) = 1 := by rcases hn with h | h | h | h <;> rw [h] <;> decide
  unfold k_load k_checkAccess k_readLittleEndian
  rw [sz, if_neg (by decide), show (0 : Int32) = Int32.ofNat 0 from rfl]
  rcases acc_loop g3 R1 v (n := n) (by omega) n 0 BIG (by omega) (by unfold BIG; omega) (fun i hi => by omega) with ⟨e, al⟩ | ⟨i, hi, k, b, e⟩
  · left
    obtain ⟨y, hy⟩ := read_loop g3 l0 v (n := n) (by omega) n 0 BIG 0 (by omega) (by unfold BIG; omega)
    refine ⟨y, ?_, hy, al⟩
    rw [e, Option.bind_some]
    dsimp only
    rw [if_pos (show (0 : Int32) = Int32.ofNat 0 from rfl), hy, Option.bind_some]
  · right
    refine ⟨i, hi, k, b, ?_⟩
    rw [e, Option.bind_some]
    dsimp only
    rw [if_neg (show ¬ kb sh (v + Int32.ofNat i) = Int32.ofNat 0 from k)]
theorem store_ok {r B : Nat} {lv q : List Nat} {s : S} {ch : Nat → Option (Nat × Nat × Nat)} {rs : List (Nat × Nat)} {own sh : Nat → Int32} (h : RI r B s ch lv q rs own sh) (v : Int32) (x : Int64) {n : Nat} (hn : n = 1 ∨ n = 2 ∨ n = 4 ∨ n = 8) : (∃ s', k_store v (Int32.ofNat n) x s = some (0, s') ∧ k_writeLittleEndian v (Int32.ofNat n) x s = some s' ∧ Fx [] [] [0] [] s s' ∧ (gA s' 0).length = 256 ∧ ∀ i, i < n → kb sh (v + Int32.ofNat i) = 0) ∨ ∃ i, i < n ∧ kb sh (v + Int32.ofNat i) ≠ 0 ∧ (∀ i', i' < i → kb sh (v + Int32.ofNat i') = 0) ∧ k_store v (Int32.ofNat n) x s = some (kb sh (v + Int32.ofNat i), k_recordError (v + Int32.ofNat i) s) := by
  obtain ⟨g0, g1, g2, g3, l0, R1, R2, Rc, Rq, g6, Rr, g8, I⟩ := h
  have sz : k_isAccessSize (Int32.ofNat n) = 1 := by rcases hn with h | h | h | h <;> rw [h] <;> decide
  unfold k_store k_checkAccess k_writeLittleEndian
  rw [sz, if_neg (by decide), show (0 : Int32) = Int32.ofNat 0 from rfl]
  rcases acc_loop g3 R1 v (n := n) (by omega) n 0 BIG (by omega) (by unfold BIG; omega) (fun i hi => by omega) with ⟨e, al⟩ | ⟨i, hi, k, b, e⟩
  · left
    obtain ⟨s', hs, F, l⟩ := write_loop v x (n := n) (by omega) n 0 BIG s (by omega) (by unfold BIG; omega) g3 l0
    refine ⟨s', ?_, hs, F, l, al⟩
    rw [e, Option.bind_some]
    dsimp only
    rw [if_pos (show (0 : Int32) = Int32.ofNat 0 from rfl), hs, Option.bind_some]
  · right
    refine ⟨i, hi, k, b, ?_⟩
    rw [e, Option.bind_some]
    dsimp only
    rw [if_neg (show ¬ kb sh (v + Int32.ofNat i) = Int32.ofNat 0 from k)]
theorem rec_fx (v : Int32) (s : S) : Fx [10, 11] [9] [0] [] s (k_recordError v s) := by
  unfold k_recordError
  exact ((Fx.refl ..).sI (by simp)).sI (by simp)
/-- any alloc -/
theorem alloc_any {r B : Nat} (hr : 1 ≤ r) (hr3 : r ≤ 3) {lv q : List Nat} {s : S} {ch : Nat → Option (Nat × Nat × Nat)} {rs : List (Nat × Nat)} {own sh : Nat → Int32} (h : RI r B s ch lv q rs own sh) (v : Int32) : (k_alloc v s = some (-1, s) ∧ (v < 1 ∨ 64 < v)) ∨ ∃ n, 1 ≤ n ∧ n ≤ 64 ∧ v = Int32.ofNat n := by
  unfold k_alloc
  by_cases a : v < 1
  · left; rw [if_pos a]; exact ⟨rfl, Or.inl a⟩
  · rw [if_neg a]
    by_cases b : 64 < v
    · left; rw [if_pos b]; exact ⟨rfl, Or.inr b⟩
    · right
      have h0 : ¬ v < 0 := fun z => a (by
        rw [Int32.lt_iff_toInt_lt] at z ⊢
        have e1 : (1 : Int32).toInt = 1 := rfl
        have e0 : (0 : Int32).toInt = 0 := rfl
        omega)
      obtain ⟨e, l⟩ := eq_ofNat h0
      refine ⟨v.toNatClampNeg, ?_, ?_, e⟩
      · rw [e] at a
        have := (lt_lit (m := 1) l (by decide)).mpr
        rcases Nat.lt_or_ge v.toNatClampNeg 1 with z | z
        · exact absurd (this z) a
        · exact z
      · rw [e, show (64 : Int32) = Int32.ofNat 64 from rfl, ofNat_lt (by omega) l] at b
        omega
theorem shadow_ok {r B : Nat} {lv q : List Nat} {s : S} {ch : Nat → Option (Nat × Nat × Nat)} {rs : List (Nat × Nat)} {own sh : Nat → Int32} (h : RI r B s ch lv q rs own sh) {g : Nat} (hg : g < 16) : k_shadow (Int32.ofNat g) s = some (sh g) := by
  obtain ⟨g0, g1, g2, g3, l0, R1, R2, Rc, Rq, g6, Rr, g8, I⟩ := h
  unfold k_shadow
  rw [if_neg (ofNat_nonneg (by omega)), g0, if_pos ((lt_lit (m := 16) (by omega) (by decide)).mpr hg), ix_ofNat _ (by omega), R1.2 g hg, Option.bind_some]
/-- the fresh arena -/
def r0 : List (Nat × Nat) := [(0, 16)]
theorem fill_arena : ∀ m j N s, j + m = 32 → m < N → (gA s 1).length = 32 → (gA s 2).length = 32 → Upto (gA s 1) j 254 → Upto (gA s 2) j (-1) → ∃ s', k_resetArena_2 N (Int32.ofNat j) s = k_resetArena_30 s' ∧ Fx [] [] [1, 2] [] s s' ∧ gA s' 1 = rep 32 254 ∧ gA s' 2 = rep 32 (-1)
  | _, _, 0, _, _, h, _, _, _, _ => by omega
  | 0, j, N + 1, s, hj, _, l1, l2, u1, u2 => by
    have : j = 32 := by omega
    subst this
    exact ⟨s, by rw [k_resetArena_2, if_neg (by decide)], Fx.refl .., u1.all l1, u2.all l2⟩
  | m + 1, j, N + 1, s, hj, hN, l1, l2, u1, u2 => by
    rw [k_resetArena_2, if_pos ((lt_lit (m := 32) (by omega) (by decide)).mpr (by omega)), st_ofNat _ _ (by omega) (by omega), Option.bind_some, st_ofNat _ _ (by omega) (by omega), Option.bind_some, ofNat_succ]
    obtain ⟨s', e, F, r⟩ := fill_arena m (j + 1) N (sA (sA s 1 ((gA s 1).set j 254)) 2 ((gA s 2).set j (-1))) (by omega) (by omega) (by simp only [gA_sA]; simp [l1]) (by simp only [gA_sA]; simp [l2]) (by simp only [gA_sA]; exact u1.set (by omega)) (by simp only [gA_sA]; exact u2.set (by omega))
    exact ⟨s', e, (((Fx.refl ..).sA (by simp)).sA (by simp)).trans F, r⟩
theorem fill_data : ∀ m j N s, j + m = 256 → m < N → (gA s 0).length = 256 → ∃ s', k_resetArena_32 N (Int32.ofNat j) s = some s' ∧ Fx [] [] [0] [] s s' ∧ (gA s' 0).length = 256
  | _, _, 0, _, _, h, _ => by omega
  | 0, j, N + 1, s, hj, _, l0 => by
    have : j = 256 := by omega
    subst this
    exact ⟨s, by rw [k_resetArena_32, if_neg (by decide)], Fx.refl .., l0⟩
  | m + 1, j, N + 1, s, hj, hN, l0 => by
    rw [k_resetArena_32, if_pos ((lt_lit (m := 256) (by omega) (by decide)).mpr (by omega)), st_ofNat _ _ (by omega) (by omega), Option.bind_some, ofNat_succ]
    obtain ⟨s', e, F, l⟩ := fill_data m (j + 1) N (sA s 0 ((gA s 0).set j (nar .byte 0))) (by omega) (by omega) (by rw [gA_sA, if_pos rfl, List.length_set]; exact l0)
    exact ⟨s', e, ((Fx.refl ..).sA (by simp)).trans F, l⟩
theorem fill_chunks : ∀ m j N s, j + m = 32 → m < N → (gA s 3).length = 32 → (gA s 4).length = 32 → (gA s 5).length = 32 → Upto (gA s 3) j 0 → Upto (gA s 4) j 0 → Upto (gA s 5) j 0 → ∃ s', k_resetChunks_2 N (Int32.ofNat j) s = some s' ∧ Fx [] [] [3, 4, 5] [] s s' ∧ gA s' 3 = rep 32 0 ∧ gA s' 4 = rep 32 0 ∧ gA s' 5 = rep 32 0
  | _, _, 0, _, _, h, _, _, _, _, _, _ => by omega
  | 0, j, N + 1, s, hj, _, l3, l4, l5, u3, u4, u5 => by
    have : j = 32 := by omega
    subst this
    exact ⟨s, by rw [k_resetChunks_2, if_neg (by decide)], Fx.refl .., u3.all l3, u4.all l4, u5.all l5⟩
  | m + 1, j, N + 1, s, hj, hN, l3, l4, l5, u3, u4, u5 => by
    rw [k_resetChunks_2, if_pos ((lt_lit (m := 32) (by omega) (by decide)).mpr (by omega)), show nar .byte (0 : Int32) = 0 by decide, st_ofNat _ _ (by omega) (by omega), Option.bind_some, st_ofNat _ _ (by omega) (by omega), Option.bind_some, st_ofNat _ _ (by omega) (by omega), Option.bind_some, ofNat_succ]
    obtain ⟨s', e, F, r⟩ := fill_chunks m (j + 1) N (sA (sA (sA s 5 ((gA s 5).set j 0)) 3 ((gA s 3).set j 0)) 4 ((gA s 4).set j 0)) (by omega) (by omega) (by simp only [gA_sA]; simp [l3]) (by simp only [gA_sA]; simp [l4]) (by simp only [gA_sA]; simp [l5]) (by simp only [gA_sA]; exact u3.set (by omega)) (by simp only [gA_sA]; exact u4.set (by omega)) (by simp only [gA_sA]; exact u5.set (by omega))
    exact ⟨s', e, ((((Fx.refl ..).sA (by simp)).sA (by simp)).sA (by simp)).trans F, r⟩
theorem fill_ring : ∀ m j N s, j + m = 32 → m < N → (gA s 6).length = 32 → ∃ s', k_resetQuarantine_2 N (Int32.ofNat j) s = k_resetQuarantine_21 s' ∧ Fx [] [] [6] [] s s' ∧ (gA s' 6).length = 32
  | _, _, 0, _, _, h, _ => by omega
  | 0, j, N + 1, s, hj, _, l6 => by
    have : j = 32 := by omega
    subst this
    exact ⟨s, by rw [k_resetQuarantine_2, if_neg (by decide)], Fx.refl .., l6⟩
  | m + 1, j, N + 1, s, hj, hN, l6 => by
    rw [k_resetQuarantine_2, if_pos ((lt_lit (m := 32) (by omega) (by decide)).mpr (by omega)), st_ofNat _ _ (by omega) (by omega), Option.bind_some, ofNat_succ]
    obtain ⟨s', e, F, l⟩ := fill_ring m (j + 1) N (sA s 6 ((gA s 6).set j (-1))) (by omega) (by omega) (by rw [gA_sA, if_pos rfl, List.length_set]; exact l6)
    exact ⟨s', e, ((Fx.refl ..).sA (by simp)).trans F, l⟩
theorem fill_runs : ∀ m j N s, j + m = 32 → m < N → (gA s 7).length = 32 → (gA s 8).length = 32 → ∃ s', k_resetRuns_2 N (Int32.ofNat j) s = k_resetRuns_28 s' ∧ Fx [] [] [7, 8] [] s s' ∧ (gA s' 7).length = 32 ∧ (gA s' 8).length = 32
  | _, _, 0, _, _, h, _, _ => by omega
  | 0, j, N + 1, s, hj, _, l7, l8 => by
    have : j = 32 := by omega
    subst this
    exact ⟨s, by rw [k_resetRuns_2, if_neg (by decide)], Fx.refl .., l7, l8⟩
  | m + 1, j, N + 1, s, hj, hN, l7, l8 => by
    rw [k_resetRuns_2, if_pos ((lt_lit (m := 32) (by omega) (by decide)).mpr (by omega)), st_ofNat _ _ (by omega) (by omega), Option.bind_some, st_ofNat _ _ (by omega) (by omega), Option.bind_some, ofNat_succ]
    obtain ⟨s', e, F, l⟩ := fill_runs m (j + 1) N (sA (sA s 7 ((gA s 7).set j 0)) 8 ((gA s 8).set j 0)) (by omega) (by omega) (by simp only [gA_sA]; simp [l7]) (by simp only [gA_sA]; simp [l8])
    exact ⟨s', e, (((Fx.refl ..).sA (by simp)).sA (by simp)).trans F, l⟩
theorem iv_init (r : Nat) : Iv r (fun _ => none) [] [] r0 (fun _ => -1) (fun _ => 254) := by
  refine ⟨fun c x h => (by cases h), fun g hg h => absurd rfl h, fun g hg => ⟨fun _ => ⟨(0, 16), by simp [r0], by dsimp only; omega, by dsimp only; omega⟩, fun _ => rfl⟩, fun g hg _ => rfl, ⟨List.nodup_nil, List.nodup_nil, fun c => ⟨fun h => (by cases h), fun ⟨x, h, _⟩ => (by cases h)⟩, fun c => ⟨fun h => (by cases h), fun ⟨x, h, _⟩ => (by cases h)⟩⟩, ⟨by simp [r0], fun p hp => by rw [List.mem_singleton.mp hp]; dsimp only; omega⟩, ?_, ?_, ?_, ?_⟩
  · rw [show cnt (fun _ => 254) 250 = 0 by decide]; rfl
  · rw [show cnt (fun _ => 254) 251 = 0 by decide]; rfl
  · decide
  · decide
theorem init_RI {v1 v2 v3 : Int32} {r B : Nat} (h1 : k_clamp v1 8 32 = 16) (h2 : k_clamp v2 1 3 = Int32.ofNat r) (h3 : k_clamp v3 0 256 = Int32.ofNat B) : ∃ s, k_init v1 v2 v3 = some s ∧ RI r B s (fun _ => none) [] [] r0 (fun _ => -1) (fun _ => 254) ∧ gI s 10 = 0 ∧ gI s 11 = 0 ∧ gL s 9 = 0 := by
  unfold k_init
  rw [h1, h2, h3]
  obtain ⟨z, hz⟩ : ∃ z, z = (sI (sI (sI (sI (sA (sA (sA (sA (sA (sA (sA (sA (sA s0 0 (rep 256 0)) 1 (rep 32 0)) 2 (rep 32 0)) 3 (rep 32 0)) 4 (rep 32 0)) 5 (rep 32 0)) 6 (rep 32 0)) 7 (rep 32 0)) 8 (rep 32 0)) 0 16) 1 (Int32.ofNat r)) 2 (Int32.ofNat B)) 3 ((8 : Int32) * 16)) := ⟨_, rfl⟩
  have zl : ∀ f, f < 9 → f ≠ 0 → (gA z f).length = 32 := fun f hf h0 => by
    rw [hz]
    simp only [gA_sI, gA_sA]
    match f, hf, h0 with
    | 1, _, _ => exact rep_length ..
    | 2, _, _ => exact rep_length ..
    | 3, _, _ => exact rep_length ..
    | 4, _, _ => exact rep_length ..
    | 5, _, _ => exact rep_length ..
    | 6, _, _ => exact rep_length ..
    | 7, _, _ => exact rep_length ..
    | 8, _, _ => exact rep_length ..
  have z0 : (gA z 0).length = 256 := by rw [hz]; simp only [gA_sI, gA_sA]; exact rep_length ..
  obtain ⟨a, ea, Fa, a1, a2⟩ := fill_arena 32 0 BIG z (by omega) (by unfold BIG; omega) (zl 1 (by omega) (by omega)) (zl 2 (by omega) (by omega)) (Upto.zero _ _) (Upto.zero _ _)
  obtain ⟨b, eb, Fb, lb⟩ := fill_data 256 0 BIG a (by omega) (by unfold BIG; omega) (by rw [Fa.2.2.1 0 (by simp)]; exact z0)
  have bA : ∀ k, k ≠ 0 → k ≠ 1 → k ≠ 2 → gA b k = gA z k := fun k x y w => by rw [Fb.2.2.1 k (by simp [x]), Fa.2.2.1 k (by simp [y, w])]
  obtain ⟨c, ec, Fc, c3, c4, c5⟩ := fill_chunks 32 0 BIG b (by omega) (by unfold BIG; omega) (by rw [bA 3 (by decide) (by decide) (by decide)]; exact zl 3 (by omega) (by omega)) (by rw [bA 4 (by decide) (by decide) (by decide)]; exact zl 4 (by omega) (by omega)) (by rw [bA 5 (by decide) (by decide) (by decide)]; exact zl 5 (by omega) (by omega)) (Upto.zero _ _) (Upto.zero _ _) (Upto.zero _ _)
  obtain ⟨d, ed, Fd, ld⟩ := fill_ring 32 0 BIG c (by omega) (by unfold BIG; omega) (by rw [Fc.2.2.1 6 (by simp), bA 6 (by decide) (by decide) (by decide)]; exact zl 6 (by omega) (by omega))
  have d78 : ∀ k, k = 7 ∨ k = 8 → gA d k = gA z k := fun k hk => by
    rcases hk with rfl | rfl
    · rw [Fd.2.2.1 7 (by simp), Fc.2.2.1 7 (by simp), bA 7 (by decide) (by decide) (by decide)]
    · rw [Fd.2.2.1 8 (by simp), Fc.2.2.1 8 (by simp), bA 8 (by decide) (by decide) (by decide)]
  obtain ⟨e, ee, Fe, e7, e8⟩ := fill_runs 32 0 BIG (sI (sI (sI d 4 0) 5 0) 6 0) (by omega) (by unfold BIG; omega) (by simp only [gA_sI]; rw [d78 7 (by omega)]; exact zl 7 (by omega) (by omega)) (by simp only [gA_sI]; rw [d78 8 (by omega)]; exact zl 8 (by omega) (by omega))
  have dI : ∀ k, gI d k = gI z k := fun k => by rw [Fd.1 k (by simp), Fc.1 k (by simp), Fb.1 k (by simp), Fa.1 k (by simp)]
  have eI : ∀ k, k ≠ 4 → k ≠ 5 → k ≠ 6 → gI e k = gI z k := fun k x y w => by rw [Fe.1 k (by simp), gI_sI, if_neg w, gI_sI, if_neg y, gI_sI, if_neg x, dI]
  have e0 : gI e 0 = 16 := by rw [eI 0 (by decide) (by decide) (by decide), hz]; simp [gI_sI]
  have eA : ∀ k, k ≠ 7 → k ≠ 8 → gA e k = gA d k := fun k x y => by rw [Fe.2.2.1 k (by simp [x, y])]; simp only [gA_sI]
  have dA : ∀ k, k ≠ 6 → gA d k = gA c k := fun k x => Fd.2.2.1 k (by simp [x])
  have cA : ∀ k, k ≠ 3 → k ≠ 4 → k ≠ 5 → gA c k = gA b k := fun k x y w => Fc.2.2.1 k (by simp [x, y, w])
  have ra : k_resetArena z = some b := by
    unfold k_resetArena
    rw [show (0 : Int32) = Int32.ofNat 0 from rfl, ea]
    exact eb
  have rc : k_resetChunks b = some c := ec
  have rq : k_resetQuarantine c = some (sI (sI (sI d 4 0) 5 0) 6 0) := by
    unfold k_resetQuarantine
    rw [show (0 : Int32) = Int32.ofNat 0 from rfl, ed]
    rfl
  have rr : k_resetRuns (sI (sI (sI d 4 0) 5 0) 6 0) = some (sI (sA (sA e 7 ((gA e 7).set 0 0)) 8 ((gA e 8).set 0 16)) 7 1) := by
    have k0 : ∀ (A : List Int32) y, A.length = 32 → Jvm.AM.st A 0 y = some (A.set 0 y) := fun A y hA => st_ofNat (k := 0) A y (by omega) (by omega)
    unfold k_resetRuns
    rw [show k_resetRuns_2 BIG 0 _ = k_resetRuns_28 e from ee]
    unfold k_resetRuns_28
    rw [k0 _ _ e7, Option.bind_some, k0 _ _ e8, Option.bind_some, e0]
  rw [← hz, ra, Option.bind_some, rc, Option.bind_some, rq, Option.bind_some, rr, Option.bind_some]
  have gz : ∀ (x : Int32) i, i < 32 → (rep 32 x)[i]? = some x := fun x i hi => by unfold rep; rw [List.getElem?_replicate, if_pos hi]
  refine ⟨_, rfl, ⟨?_, ?_, ?_, ?_, ?_, ⟨?_, fun g hg => ?_⟩, ⟨?_, fun g hg => ?_⟩, ⟨?_, ?_, ?_, fun c hc => ?_⟩, ⟨?_, by simp, ?_, 0, by omega, ?_, fun i c h => by cases h⟩, ?_, ⟨?_, ?_, ?_, by simp [r0], fun i p hp => ?_, fun p hp => by rw [List.mem_singleton.mp hp]; dsimp only; omega⟩, ?_, iv_init r⟩, ?_, ?_, ?_⟩
  · simp only [gI_sI, gI_sL, gI_sA]; exact e0
  · simp only [gI_sI, gI_sL, gI_sA]; rw [if_neg (by decide), if_neg (by decide), if_neg (by decide), if_neg (by decide), eI 1 (by decide) (by decide) (by decide), hz]; simp [gI_sI]
  · simp only [gI_sI, gI_sL, gI_sA]; rw [if_neg (by decide), if_neg (by decide), if_neg (by decide), if_neg (by decide), eI 2 (by decide) (by decide) (by decide), hz]; simp [gI_sI]
  · simp only [gI_sI, gI_sL, gI_sA]; rw [if_neg (by decide), if_neg (by decide), if_neg (by decide), if_neg (by decide), eI 3 (by decide) (by decide) (by decide), hz]; simp [gI_sI]
  · simp only [gA_sI, gA_sL, gA_sA]; rw [if_neg (by decide), if_neg (by decide), eA 0 (by decide) (by decide), dA 0 (by decide), cA 0 (by decide) (by decide) (by decide)]; exact lb
  · simp only [gA_sI, gA_sL, gA_sA]; rw [if_neg (by decide), if_neg (by decide), eA 1 (by decide) (by decide), dA 1 (by decide), cA 1 (by decide) (by decide) (by decide), Fb.2.2.1 1 (by simp), a1]; exact rep_length ..
  · simp only [gA_sI, gA_sL, gA_sA]; rw [if_neg (by decide), if_neg (by decide), eA 1 (by decide) (by decide), dA 1 (by decide), cA 1 (by decide) (by decide) (by decide), Fb.2.2.1 1 (by simp), a1]; exact gz _ _ (by omega)
  · simp only [gA_sI, gA_sL, gA_sA]; rw [if_neg (by decide), if_neg (by decide), eA 2 (by decide) (by decide), dA 2 (by decide), cA 2 (by decide) (by decide) (by decide), Fb.2.2.1 2 (by simp), a2]; exact rep_length ..
  · simp only [gA_sI, gA_sL, gA_sA]; rw [if_neg (by decide), if_neg (by decide), eA 2 (by decide) (by decide), dA 2 (by decide), cA 2 (by decide) (by decide) (by decide), Fb.2.2.1 2 (by simp), a2]; exact gz _ _ (by omega)
  · simp only [gA_sI, gA_sL, gA_sA]; rw [if_neg (by decide), if_neg (by decide), eA 3 (by decide) (by decide), dA 3 (by decide), c3]; exact rep_length ..
  · simp only [gA_sI, gA_sL, gA_sA]; rw [if_neg (by decide), if_neg (by decide), eA 4 (by decide) (by decide), dA 4 (by decide), c4]; exact rep_length ..
  · simp only [gA_sI, gA_sL, gA_sA]; rw [if_neg (by decide), if_neg (by decide), eA 5 (by decide) (by decide), dA 5 (by decide), c5]; exact rep_length ..
  · simp only [gA_sI, gA_sL, gA_sA]
    rw [if_neg (by decide), if_neg (by decide), if_neg (by decide), if_neg (by decide), if_neg (by decide), if_neg (by decide), eA 3 (by decide) (by decide), dA 3 (by decide), c3, eA 4 (by decide) (by decide), dA 4 (by decide), c4, eA 5 (by decide) (by decide), dA 5 (by decide), c5, gz _ _ hc]
    exact ⟨rfl, rfl, rfl⟩
  · simp only [gA_sI, gA_sL, gA_sA]; rw [if_neg (by decide), if_neg (by decide), eA 6 (by decide) (by decide)]; exact ld
  · simp only [gI_sI, gI_sL, gI_sA]; rw [if_neg (by decide), if_neg (by decide), if_neg (by decide), if_neg (by decide), Fe.1 5 (by simp)]; simp [gI_sI]
  · simp only [gI_sI, gI_sL, gI_sA]; rw [if_neg (by decide), if_neg (by decide), if_neg (by decide), if_neg (by decide), Fe.1 4 (by simp)]; simp [gI_sI]
  · simp only [gI_sI, gI_sL, gI_sA]; rw [if_neg (by decide), if_neg (by decide), if_neg (by decide), if_neg (by decide), Fe.1 6 (by simp)]; simp [gI_sI, usum]
  · simp only [gA_sI, gA_sL, gA_sA]; simp [e7]
  · simp only [gA_sI, gA_sL, gA_sA]; simp [e8]
  · simp only [gI_sI, gI_sL, gI_sA]; rfl
  · have i0 : i = 0 := by
      have := (List.getElem?_eq_some_iff.mp hp).1
      simp [r0] at this
      exact this
    subst i0
    cases hp
    simp only [gA_sI, gA_sL, gA_sA]
    simp only [show ¬ (7 : Nat) = 8 by decide, if_false, if_true]
    rw [List.getElem?_set_self (by omega), List.getElem?_set_self (by omega)]
    exact ⟨rfl, rfl⟩
  · simp only [gI_sI, gI_sL, gI_sA]; rfl
  · simp only [gI_sI, gI_sL, gI_sA]; rfl
  · simp only [gI_sI, gI_sL, gI_sA]; rfl
  · simp only [gL_sI, gL_sL, gL_sA]; rfl
theorem carve5 {s : S} {pre post : List (Nat × Nat)} {p : Nat × Nat} (r : RR s (pre ++ p :: post)) (hS : Sep (pre ++ p :: post)) {n : Nat} (hn : 0 < n) (hp : n < p.2) : ∃ s' rs', k_carveFront (Int32.ofNat pre.length) (Int32.ofNat n) s = some s' ∧ Fx [7] [] [7, 8] [] s s' ∧ RR s' rs' ∧ Sep rs' ∧ (∀ g, cov rs' g ↔ cov (pre ++ p :: post) g ∧ ¬ (p.1 ≤ g ∧ g < p.1 + n)) ∧ tot rs' + n = tot (pre ++ p :: post) := by
  obtain ⟨g7, g8⟩ := r.at
  obtain ⟨m1, m2, m3, m4, m5, m6, m7⟩ := sep_mid.mp hS
  have hc := sep_len hS
  have pl : pre.length < (pre ++ p :: post).length := by simp
  have r7 := r.set7 (x := p.1 + n) (by omega)
  have r8 := r7.set8 (x := p.2 - n) (by omega)
  simp only [gA_sA] at r8
  simp only [show ¬ (8 : Nat) = 7 by decide, if_false] at r8
  have sb : Int32.ofNat p.2 - Int32.ofNat n = Int32.ofNat (p.2 - n) := by
    have := ofNat_add' (p.2 - n) n
    rw [show p.2 - n + n = p.2 by omega] at this
    rw [← this]; simp
  have cD : ∀ g, (cov pre g ∨ cov post g) → ¬ (p.1 ≤ g ∧ g < p.1 + p.2) := fun g h w => by
    rcases h with ⟨x, hx, h⟩ | ⟨x, hx, h⟩
    · have := m3 x hx; omega
    · have := m4 x hx; omega
  have ev : k_carveFront (Int32.ofNat pre.length) (Int32.ofNat n) s = if 0 < Int32.ofNat (p.2 - n) then some (sA (sA s 7 ((gA s 7).set pre.length (Int32.ofNat (p.1 + n)))) 8 ((gA s 8).set pre.length (Int32.ofNat (p.2 - n)))) else none := by
    unfold k_carveFront
    rw [if_neg (ofNat_nonneg (by omega)), r.2.2.1, if_pos (by rw [ofNat_lt (by omega) (by omega)]; omega), ix_ofNat _ (by omega), g7, Option.bind_some, ofNat_add', st_ofNat _ _ (by omega) (by rw [r.1]; omega), Option.bind_some, ix_ofNat _ (by omega), g8, Option.bind_some, sb, st_ofNat _ _ (by omega) (by rw [r.2.1]; omega), Option.bind_some, ix_ofNat _ (by omega), List.getElem?_set_self (by rw [r.2.1]; omega), Option.bind_some]
  have F0 : Fx [7] [] [7, 8] [] s (sA (sA s 7 ((gA s 7).set pre.length (Int32.ofNat (p.1 + n)))) 8 ((gA s 8).set pre.length (Int32.ofNat (p.2 - n)))) := ((Fx.refl ..).sA (by simp)).sA (by simp)
  rw [ev]
  have q : ¬ p.2 = n := by omega
  · rw [if_pos (by rw [show (0 : Int32) = Int32.ofNat 0 from rfl, ofNat_lt (by omega) (by omega)]; omega)]
    refine ⟨_, pre ++ (p.1 + n, p.2 - n) :: post, rfl, F0, r8, sep_mid.mpr ⟨m1, m2, fun x hx => ?_, fun x hx => ?_, m5, by dsimp only; omega, by dsimp only; omega⟩, fun g => ?_, ?_⟩
    · have := m3 x hx; dsimp only; omega
    · have := m4 x hx; dsimp only; omega
    · rw [cov_app, cov_app, cov_cons, cov_cons]
      dsimp only
      constructor
      · rintro (h | h | h)
        · exact ⟨Or.inl h, fun w => cD g (Or.inl h) (by omega)⟩
        · exact ⟨Or.inr (Or.inl (by omega)), by omega⟩
        · exact ⟨Or.inr (Or.inr h), fun w => cD g (Or.inr h) (by omega)⟩
      · rintro ⟨h | h | h, w⟩
        · exact Or.inl h
        · exact Or.inr (Or.inl (by omega))
        · exact Or.inr (Or.inr h)
    · rw [tot_app, tot_app, tot_cons, tot_cons]; dsimp only; omega
theorem free5 {r B : Nat} (hr : 1 ≤ r) (hr3 : r ≤ 3) (hB : B ≤ 1000) {lv q : List Nat} {s : S} {ch : Nat → Option (Nat × Nat × Nat)} {rs : List (Nat × Nat)} {own sh : Nat → Int32} (h : RI r B s ch lv q rs own sh) (v : Int32) (room : ∀ c a n, ch c = some (a, n, 1) → 8 * (usum ch q + ug n + 2 * r * (q.length + 1)) ≤ B) : (k_free v s = some (2, s) ∧ ∀ c x, ch c = some x → v ≠ Int32.ofNat (8 * (x.1 + r))) ∨ (∃ c x, ch c = some x ∧ x.2.2 = 2 ∧ v = Int32.ofNat (8 * (x.1 + r)) ∧ k_free v s = some (1, s)) ∨ ∃ c a n s', ch c = some (a, n, 1) ∧ v = Int32.ofNat (8 * (a + r)) ∧ k_free v s = some (0, s') ∧ RI r B s' (aupd ch c (some (a, n, 2))) (lv.erase c) (q ++ [c]) rs own (pnt sh (a + r) 253 (ug n)) ∧ (lv.erase c).length + 1 = lv.length ∧ Fx [4, 5, 6, 7, 8] [] [1, 2, 3, 4, 5, 6, 7, 8] [] s s' := by
  rcases slotU_ok hr hr3 h v with ⟨e, n⟩ | ⟨c, x, hx, ev, e⟩
  · left
    refine ⟨?_, n⟩
    unfold k_free
    rw [e, Option.bind_some, if_pos (by decide)]
  · right
    obtain ⟨g0, g1, g2, g3, l0, R1, R2, Rc, Rq, g6, Rr, g8, I⟩ := id h
    obtain ⟨b1, b2⟩ := iv_bound hr I
    obtain ⟨hc, x1, x64, x16, xq, xk⟩ := I.1 c x hx
    obtain ⟨sq, sl⟩ := stateQ h hx
    have k0 : k_free v s = if (if x.2.2 = 2 then (1 : Int32) else 0) = 0 then (if (if x.2.2 = 1 then (1 : Int32) else 0) = 0 then some (2, s) else (k_quarantineChunk (Int32.ofNat c) s).bind fun r34 => (k_trimToBudget r34).bind fun r38 => some (0, r34)) else some (1, s) := by
      unfold k_free
      rw [e, Option.bind_some, if_neg (ofNat_nonneg (by omega)), sq, Option.bind_some, sl, Option.bind_some]
    rcases xq with w | w
    · right
      obtain ⟨a, n, st⟩ := x
      dsimp only at w x1 x64 x16 xk ev
      subst w
      obtain ⟨I', len⟩ := iv_free I hx
      obtain ⟨ua, ub, uc, ud⟩ := ug_ok ⟨n, by omega⟩
      dsimp only at ua ub uc ud
      have sp : span r n = 2 * r + ug n := rfl
      obtain ⟨rc3, rc4, rc5, rcg⟩ := id Rc
      obtain ⟨ga3, ga4, ga5⟩ := rcg c hc
      rw [hx] at ga3 ga4 ga5
      change (gA s 3)[c]? = some (Int32.ofNat a) at ga3
      change (gA s 4)[c]? = some (Int32.ofNat n) at ga4
      have n2 : nar .byte (2 : Int32) = 2 := by decide
      obtain ⟨t, ht⟩ : ∃ t, t = sA s 5 ((gA s 5).set c 2) := ⟨_, rfl⟩
      have tA : ∀ k, k ≠ 5 → gA t k = gA s k := fun k hk => by rw [ht, gA_sA, if_neg hk]
      have tI : ∀ k, gI t k = gI s k := fun k => by rw [ht, gI_sA]
      have e3s : (gA s 3).set c (Int32.ofNat a) = gA s 3 := by
        apply List.ext_getElem? fun i => ?_
        by_cases y : c = i
        · subst y; rw [List.getElem?_set_self (by omega), ga3]
        · rw [List.getElem?_set_ne y]
      have e4s : (gA s 4).set c (Int32.ofNat n) = gA s 4 := by
        apply List.ext_getElem? fun i => ?_
        by_cases y : c = i
        · subst y; rw [List.getElem?_set_self (by omega), ga4]
        · rw [List.getElem?_set_ne y]
      have Rt : RC t (aupd ch c (some (a, n, 2))) := Rc.put hc (some (a, n, 2)) (by rw [tA 3 (by decide)]; exact e3s.symm) (by rw [tA 4 (by decide)]; exact e4s.symm) (by rw [ht, gA_sA, if_pos rfl]; rfl)
      have uu : aupd ch c (some (a, n, 2)) c = some (a, n, 2) := by unfold aupd; rw [if_pos rfl]
      have ugr := ugran_ok Rt (r := r) (by rw [tI]; exact g1) hc
      rw [uu] at ugr
      change k_userGranule (Int32.ofNat c) t = some (Int32.ofNat (a + r)) at ugr
      obtain ⟨p1, e1, F1, r1⟩ := paint_ok (a := a + r) (k := ug n) (by omega) 253 (s := t) (by rw [tI]; exact g0) (R1.fx (tA 1 (by decide)))
      have pq : k_paintQuarantined (Int32.ofNat c) t = some p1 := by
        unfold k_paintQuarantined k_userGranulesFor
        rw [ugr, Option.bind_some, ix_ofNat _ (by omega), tA 4 (by decide), ga4, Option.bind_some, ua, Option.bind_some, e1, Option.bind_some]
      obtain ⟨q6, q16, q5, hd, hd32, q4, qi⟩ := id Rq
      have p8 : gI p1 8 - 1 = Int32.ofNat (lv.erase c).length := by
        rw [F1.1 8 (by simp), tI, g8, ← len, ← ofNat_succ]; simp
      obtain ⟨u, hu⟩ : ∃ u, u = sI p1 8 (gI p1 8 - 1) := ⟨_, rfl⟩
      have uA : ∀ k, gA u k = gA p1 k := fun k => by rw [hu, gA_sI]
      have uI : ∀ k, k ≠ 8 → gI u k = gI s k := fun k hk => by rw [hu, gI_sI, if_neg hk, F1.1 k (by simp), tI]
      have u6 : gA u 6 = gA s 6 := by rw [uA, F1.2.2.1 6 (by simp), tA 6 (by decide)]
      obtain ⟨w, hw⟩ : ∃ w, w = sI (sI (sA u 6 ((gA s 6).set ((hd + q.length) % 32) (Int32.ofNat c))) 5 (Int32.ofNat (q.length + 1))) 6 (Int32.ofNat (8 * (usum ch q + 2 * r * q.length) + 8 * span r n)) := ⟨_, rfl⟩
      have m31 := and31 ⟨hd + q.length, by omega⟩
      dsimp only at m31
      have Ru : RC u (aupd ch c (some (a, n, 2))) := Rt.fx (by rw [uA, F1.2.2.1 3 (by simp)]) (by rw [uA, F1.2.2.1 4 (by simp)]) (by rw [uA, F1.2.2.1 5 (by simp)])
      have wt : k_weightOf (Int32.ofNat c) (sI (sA u 6 ((gA s 6).set ((hd + q.length) % 32) (Int32.ofNat c))) 5 (Int32.ofNat (q.length + 1))) = some (Int32.ofNat (8 * span r n)) := by
        have := weight_ok (s := sI (sA u 6 ((gA s 6).set ((hd + q.length) % 32) (Int32.ofNat c))) 5 (Int32.ofNat (q.length + 1))) (Ru.fx (by simp only [gA_sI, gA_sA]; rfl) (by simp only [gA_sI, gA_sA]; rfl) (by simp only [gA_sI, gA_sA]; rfl)) hr3 (r := r) (by simp only [gI_sI, gI_sA]; rw [if_neg (by decide), uI 1 (by decide)]; exact g1) hc (by rw [uu]; exact x64)
        rw [uu] at this
        exact this
      have qc : k_quarantineChunk (Int32.ofNat c) s = some w := by
        unfold k_quarantineChunk
        rw [n2, st_ofNat _ _ (by omega) (by omega), Option.bind_some, ← ht, pq, Option.bind_some, ← hu]
        unfold k_enqueue
        rw [uI 5 (by decide), q5, if_pos ((lt_lit (m := 32) (by omega) (by decide)).mpr (by omega)), uI 4 (by decide), q4, ofNat_add', m31, u6, st_ofNat _ _ (by omega) (by rw [q6]; omega), Option.bind_some, ofNat_succ, wt, Option.bind_some, uI 6 (by decide), g6, ofNat_add', ← hw, Option.bind_some]
      have wA : ∀ k, k ≠ 6 → gA w k = gA u k := fun k hk => by rw [hw]; simp only [gA_sI, gA_sA]; rw [if_neg hk]
      have wI : ∀ k, k ≠ 5 → k ≠ 6 → gI w k = gI u k := fun k x y => by rw [hw]; simp only [gI_sI, gI_sA]; rw [if_neg y, if_neg x]
      have nq : c ∉ q := fun z => by
        obtain ⟨y, hy, e⟩ := (I.2.2.2.2.1.2.2.2 c).mp z
        rw [hx] at hy; cases hy; cases e
      have uS : usum (aupd ch c (some (a, n, 2))) (q ++ [c]) = usum ch q + ug n := by
        unfold usum
        rw [List.map_append, List.sum_append]
        have e1 : (q.map fun d => ug (oN (aupd ch c (some (a, n, 2)) d))) = q.map fun d => ug (oN (ch d)) := by
          apply List.map_congr_left
          intro d hd
          unfold aupd
          rw [if_neg (fun e => by rw [e] at hd; exact nq hd)]
        rw [e1]
        congr 1
        simp [aupd, oN]
      have RIw : RI r B w (aupd ch c (some (a, n, 2))) (lv.erase c) (q ++ [c]) rs own (pnt sh (a + r) 253 (ug n)) := by
        refine ⟨by rw [wI 0 (by decide) (by decide), uI 0 (by decide)]; exact g0, by rw [wI 1 (by decide) (by decide), uI 1 (by decide)]; exact g1, by rw [wI 2 (by decide) (by decide), uI 2 (by decide)]; exact g2, by rw [wI 3 (by decide) (by decide), uI 3 (by decide)]; exact g3, by rw [wA 0 (by decide), uA, F1.2.2.1 0 (by simp), tA 0 (by decide)]; exact l0, (r1.fx (uA 1)).fx (wA 1 (by decide)), R2.fx (by rw [wA 2 (by decide), uA, F1.2.2.1 2 (by simp), tA 2 (by decide)]), Ru.fx (wA 3 (by decide)) (wA 4 (by decide)) (wA 5 (by decide)), ⟨?_, ?_, ?_, hd, hd32, ?_, ?_⟩, ?_, Rr.fx (by rw [wA 7 (by decide), uA, F1.2.2.1 7 (by simp), tA 7 (by decide)]) (by rw [wA 8 (by decide), uA, F1.2.2.1 8 (by simp), tA 8 (by decide)]) (by rw [wI 7 (by decide) (by decide), uI 7 (by decide)]), by rw [wI 8 (by decide) (by decide), hu, gI_sI, if_pos rfl]; exact p8, I'⟩
        · rw [hw]; simp only [gA_sI, gA_sA]; simp [q6]
        · rw [List.length_append, List.length_singleton]; omega
        · rw [hw]; simp [gI_sI]
        · rw [wI 4 (by decide) (by decide), uI 4 (by decide)]; exact q4
        · intro i d hi
          rw [hw]
          simp only [gA_sI, gA_sA, if_true]
          have il := (List.getElem?_eq_some_iff.mp hi).1
          rw [List.length_append, List.length_singleton] at il
          rw [get_mid (post := [])] at hi
          by_cases y : i < q.length
          · rw [if_pos y] at hi
            rw [List.getElem?_set_ne (by omega)]
            exact qi i d hi
          · rw [if_neg y, if_pos (by omega)] at hi
            cases hi
            rw [show i = q.length by omega, List.getElem?_set_self (by rw [q6]; omega)]
        · rw [hw, gI_sI, if_pos rfl, uS, List.length_append, List.length_singleton]
          congr 1
          have m : 2 * r * (q.length + 1) = 2 * r * q.length + 2 * r := Nat.mul_succ _ _
          rw [m, sp]; omega
      have Fw : Fx [4, 5, 6, 7, 8] [] [1, 2, 3, 4, 5, 6, 7, 8] [] s w := by
        have F0 : Fx [4, 5, 6, 7, 8] [] [1, 2, 3, 4, 5, 6, 7, 8] [] s t := by rw [ht]; exact (Fx.refl ..).sA (by simp)
        have F2 := F0.trans (F1.mono (by simp) (by simp) (by simp) (by simp))
        rw [hw]
        refine ((Fx.sA ?_ (by simp)).sI (by simp)).sI (by simp)
        rw [hu]; exact F2.sI (by simp)
      have tr : k_trimToBudget w = some () := by
        have w6 : gI w 6 = Int32.ofNat (8 * (usum (aupd ch c (some (a, n, 2))) (q ++ [c]) + 2 * r * (q ++ [c]).length)) := RIw.2.2.2.2.2.2.2.2.2.1
        have w2 : gI w 2 = Int32.ofNat B := RIw.2.2.1
        have rm := room c a n hx
        rw [uS, List.length_append, List.length_singleton] at w6
        unfold k_trimToBudget
        rw [if_pos (show (0 : Int32) < 64 by decide), w6, w2, if_neg (fun z => by have := (ofNat_lt (by omega) (by omega)).mp z; omega)]
      refine ⟨c, a, n, w, hx, ev, ?_, RIw, len, Fw⟩
      dsimp only at k0
      rw [k0, if_pos (show (if (1 : Nat) = 2 then (1 : Int32) else 0) = 0 from rfl), if_neg (show ¬ (if (1 : Nat) = 1 then (1 : Int32) else 0) = 0 by decide), qc, Option.bind_some, tr, Option.bind_some]
    · left
      refine ⟨c, x, hx, w, ev, ?_⟩
      rw [k0, w, if_pos rfl, if_neg (by decide)]
theorem alloc_fresh {s : S} (h : RI 1 256 s (fun _ => none) [] [] r0 (fun _ => -1) (fun _ => 254)) {n : Nat} (n1 : 1 ≤ n) (n64 : n ≤ 64) : ∃ s' c rs', k_alloc (Int32.ofNat n) s = some (8, s') ∧ RI 1 256 s' (aupd (fun _ => none) c (some (0, n, 1))) [c] [] rs' (pnt (fun _ => -1) 0 (Int32.ofNat c) (span 1 n)) (paintL (fun _ => 254) 1 0 n) ∧ Fx [4, 5, 6, 7, 8] [] [0, 1, 2, 3, 4, 5, 6, 7, 8] [] s s' := by
  obtain ⟨ua, ub, uc, ud⟩ := ug_ok ⟨n, by omega⟩
  dsimp only at ua ub uc ud
  have sp : span 1 n = 2 * 1 + ug n := rfl
  obtain ⟨t0, t1, t2, t3, tl0, T1, T2, Tc, Tq, t6, Tr, t8, TI⟩ := id h
  have Sp : Sep r0 := TI.2.2.2.2.2.1
  have ft : k_findFitRun (Int32.ofNat (span 1 n)) s = some 0 := by
    rcases fit_ok Tr (k := span 1 n) (by omega) with ⟨_, al⟩ | ⟨i, p, e, ei, _⟩
    · have := al (0, 16) (by simp [r0])
      dsimp only at this
      omega
    · have il := (List.getElem?_eq_some_iff.mp ei).1
      simp [r0] at il
      subst il
      exact e
  have rm : k_findRoom (Int32.ofNat (span 1 n)) s = some 0 := by
    unfold k_findRoom
    rw [ft, Option.bind_some, if_pos (show (0 : Int32) < 64 by decide), if_neg (show ¬ (0 : Int32) < 0 by decide)]
  obtain ⟨c, hc, cn, ec⟩ := slot_free (by omega) h
  obtain ⟨u, rs2, eu, Fu, Ru, Su, cv, tt⟩ := carve5 (pre := []) (p := (0, 16)) (post := []) Tr Sp (n := span 1 n) (by omega) (by dsimp only; omega)
  obtain ⟨w, ew, Fw, W1, W2, Wc, w8, wl⟩ := create_ok (B := 256) (r := 1) (by omega) (by omega) (lv := []) (s := u) (q := []) (rs := rs2) (ch := fun _ => none) (own := fun _ => -1) (sh := fun _ => 254) (c := c) (a := 0) (n := n) hc n1 n64 (by omega) (by rw [Fu.1 0 (by simp)]; exact t0) (by rw [Fu.1 1 (by simp)]; exact t1) (by rw [Fu.1 3 (by simp)]; exact t3) (by rw [Fu.2.2.1 0 (by simp)]; exact tl0) (T1.fx (Fu.2.2.1 1 (by simp))) (T2.fx (Fu.2.2.1 2 (by simp))) (Tc.fx (Fu.2.2.1 3 (by simp)) (Fu.2.2.1 4 (by simp)) (Fu.2.2.1 5 (by simp))) (by rw [Fu.1 8 (by simp)]; exact t8) (by simp)
  have I' := iv_alloc TI hc cn n1 n64 (show 0 + span 1 n ≤ 16 by omega) (fun g h1 h2 => ⟨(0, 16), by simp [r0], by dsimp only; omega, by dsimp only; omega⟩) Su (by simpa [r0] using cv) (by simpa [r0] using tt)
  refine ⟨w, c, rs2, ?_, ⟨?_, ?_, ?_, ?_, wl, W1, W2, Wc, ?_, ?_, ?_, w8, I'⟩, ?_⟩
  · unfold k_alloc
    rw [if_neg (fun z => by have := (lt_lit (m := 1) (by omega) (by decide)).mp z; omega), if_neg (fun z => by rw [show (64 : Int32) = Int32.ofNat 64 from rfl, ofNat_lt (by omega) (by omega)] at z; omega), span_ok (by omega) t1 n64, Option.bind_some, rm, Option.bind_some]
    rw [if_neg (show ¬ (0 : Int32) < 0 by decide), ec, Option.bind_some, if_neg (ofNat_nonneg (by omega)), show ix (gA s 7) 0 = some (Int32.ofNat 0) by rw [show (0 : Int32) = Int32.ofNat 0 from rfl, ix_ofNat _ (by omega)]; exact (Tr.2.2.2.2.1 0 (0, 16) rfl).1, Option.bind_some, show k_carveFront 0 (Int32.ofNat (span 1 n)) s = some u from eu, Option.bind_some, ew, Option.bind_some]
    rfl
  · rw [Fw.1 0 (by simp), Fu.1 0 (by simp)]; exact t0
  · rw [Fw.1 1 (by simp), Fu.1 1 (by simp)]; exact t1
  · rw [Fw.1 2 (by simp), Fu.1 2 (by simp)]; exact t2
  · rw [Fw.1 3 (by simp), Fu.1 3 (by simp)]; exact t3
  · exact (Tq.fx (Fu.2.2.1 6 (by simp)) (Fu.1 5 (by simp)) (Fu.1 4 (by simp))).fx (Fw.2.2.1 6 (by simp)) (Fw.1 5 (by simp)) (Fw.1 4 (by simp))
  · rw [Fw.1 6 (by simp), Fu.1 6 (by simp)]; exact t6
  · exact Ru.fx (Fw.2.2.1 7 (by simp)) (Fw.2.2.1 8 (by simp)) (Fw.1 7 (by simp))
  · exact (Fu.mono (by simp) (by simp) (by simp) (by simp)).trans (Fw.mono (by simp) (by simp) (by simp) (by simp))
theorem or64 (a b : Nat) : Int64.ofNat a ||| Int64.ofNat b = Int64.ofNat (a ||| b) := by
  apply Int64.toBitVec_inj.mp
  simp
theorem byte_sh : ∀ b : Fin 256, ∀ j : Fin 8, (Int32.ofNat b.val).toInt64 <<< (((8 : Int32) * Int32.ofNat j.val).toInt64 &&& 63) = Int64.ofNat (b.val <<< (8 * j.val)) := by decide +kernel
/-- byte j of v -/
def byt (v : Int64) (j : Nat) : Nat := v.toBitVec.toNat / 2 ^ (8 * j) % 256
theorem byt_acc (x j : Nat) : x % 2 ^ (8 * j) ||| (x / 2 ^ (8 * j) % 256) <<< (8 * j) = x % 2 ^ (8 * (j + 1)) := by
  apply Nat.eq_of_testBit_eq
  intro i
  rw [Nat.testBit_or, Nat.testBit_mod_two_pow, Nat.testBit_shiftLeft, show (256 : Nat) = 2 ^ 8 from rfl, Nat.testBit_mod_two_pow, Nat.testBit_mod_two_pow, Nat.testBit_div_two_pow]
  by_cases q : i < 8 * j
  · rw [show decide (i < 8 * j) = true from decide_eq_true q, show decide (i ≥ 8 * j) = false from decide_eq_false (by omega), show decide (i < 8 * (j + 1)) = true from decide_eq_true (by omega)]
    simp
  · rw [show decide (i < 8 * j) = false from decide_eq_false q, show decide (i ≥ 8 * j) = true from decide_eq_true (by omega), show i - 8 * j + 8 * j = i by omega]
    by_cases w : i < 8 * (j + 1)
    · rw [show decide (i - 8 * j < 8) = true from decide_eq_true (by omega), show decide (i < 8 * (j + 1)) = true from decide_eq_true w]; simp
    · rw [show decide (i - 8 * j < 8) = false from decide_eq_false (by omega), show decide (i < 8 * (j + 1)) = false from decide_eq_false w]; simp
theorem nar_byte : ∀ b : Fin 256, (nar .byte (Int32.ofNat b.val).toInt8.toInt32) &&& 255 = Int32.ofNat b.val := by decide +kernel
theorem sh8 : ∀ j : Fin 8, (8 : Int32) * Int32.ofNat j.val = Int32.ofNat (8 * j.val) := by decide
theorem ush_nat (v : Int64) : ∀ j : Fin 8, (XT.ushrL v ((8 : Int32) * Int32.ofNat j.val)).toBitVec.toNat = v.toBitVec.toNat / 2 ^ (8 * j.val) := by
  intro j
  have c : ∀ j : Fin 8, (((8 : Int32) * Int32.ofNat j.val).toInt64.toUInt64 &&& Int64.toUInt64 63).toBitVec = BitVec.ofNat 64 (8 * j.val) := by decide
  unfold XT.ushrL
  show (v.toUInt64 >>> _).toBitVec.toNat = _
  rw [UInt64.toBitVec_shiftRight, c j]
  rw [BitVec.ushiftRight_eq', BitVec.toNat_ushiftRight, Nat.shiftRight_eq_div_pow]
  have : (BitVec.ofNat 64 (8 * j.val) % 64).toNat = 8 * j.val := by
    have : ∀ j : Fin 8, (BitVec.ofNat 64 (8 * j.val) % 64).toNat = 8 * j.val := by decide
    exact this j
  rw [this]
  rfl
theorem stored (v : Int64) (j : Fin 8) : ((XT.ushrL (XT.ushrL v ((8 : Int32) * Int32.ofNat j.val)) ((8 : Int32) * Int32.ofNat 0)) &&& (255 : Int64)).toInt32 = Int32.ofNat (byt v j.val) := by
  apply Int32.toBitVec_inj.mp
  apply BitVec.eq_of_toNat_eq
  have h0 := ush_nat (XT.ushrL v ((8 : Int32) * Int32.ofNat j.val)) 0
  have hj := ush_nat v j
  rw [hj] at h0
  have lt : byt v j.val < 256 := Nat.mod_lt _ (by omega)
  rw [Int64.toBitVec_toInt32, BitVec.signExtend_eq_setWidth_of_le _ (by omega), Int64.toBitVec_and]
  show _ = (BitVec.ofNat 32 (byt v j.val)).toNat
  rw [BitVec.toNat_setWidth, BitVec.toNat_and, BitVec.toNat_ofNat]
  have h0' : (XT.ushrL (XT.ushrL v ((8 : Int32) * Int32.ofNat j.val)) ((8 : Int32) * Int32.ofNat 0)).toBitVec.toNat = v.toBitVec.toNat / 2 ^ (8 * j.val) := by
    rw [show ((8 : Int32) * Int32.ofNat 0) = (8 : Int32) * Int32.ofNat (0 : Fin 8).val from rfl, h0]; simp
  rw [h0', show (255 : Int64).toBitVec.toNat = 2 ^ 8 - 1 from rfl, Nat.and_two_pow_sub_one_eq_mod]
  unfold byt at lt ⊢
  rw [show (2 : Nat) ^ 8 = 256 from rfl]
theorem usize_new {r B : Nat} (hr : 1 ≤ r) (hr3 : r ≤ 3) {lv q : List Nat} {s : S} {ch : Nat → Option (Nat × Nat × Nat)} {rs : List (Nat × Nat)} {own sh : Nat → Int32} (R : RI r B s ch lv q rs own sh) {c a n : Nat} (hx : ch c = some (a, n, 1)) : k_userSize (Int32.ofNat (8 * (a + r))) s = some (Int32.ofNat n) := by
  have I := R.2.2.2.2.2.2.2.2.2.2.2.2
  have Rc : RC s ch := R.2.2.2.2.2.2.2.1
  unfold k_userSize
  rcases slotU_ok hr hr3 R (Int32.ofNat (8 * (a + r))) with ⟨_, nn⟩ | ⟨d, y, hy, ev, e⟩
  · exact absurd rfl (nn c _ hx)
  · obtain ⟨hc, x1, x64, x16, _, _⟩ := I.1 c _ hx
    obtain ⟨hd, y1, y64, y16, _, _⟩ := I.1 d _ hy
    dsimp only at x1 x64 x16
    have u1 := (ug_ok ⟨n, by omega⟩).2.2.1 x1
    have v1 := (ug_ok ⟨y.2.1, by omega⟩).2.2.1 y1
    dsimp only at u1 v1
    have x16' := x16
    have y16' := y16
    unfold span at x16' y16'
    have e2 := (nat_eq (by omega) (by omega)).mp ev
    have cd := apart I hx hy (g := a + r) ⟨by dsimp only; omega, by dsimp only; unfold span; omega⟩ ⟨by omega, by unfold span; omega⟩
    subst cd
    rw [hx] at hy
    cases hy
    obtain ⟨_, sl⟩ := stateQ R hx
    have q4 := (Rc.2.2.2 c hc).2.1
    rw [hx] at q4
    change (gA s 4)[c]? = some (Int32.ofNat n) at q4
    rw [e, Option.bind_some, sl, Option.bind_some, if_neg (show ¬ (if (1 : Nat) = 1 then (1 : Int32) else 0) = 0 by decide), ix_ofNat _ (by omega), q4, Option.bind_some]
abbrev sh5 (n : Nat) : Nat → Int32 := paintL (fun _ => 254) 1 0 n
theorem sh5_get {n : Nat} (n1 : 1 ≤ n) (n64 : n ≤ 64) (g : Nat) : sh5 n g = if g < span 1 n then shv 1 (0, n, 1) g else 254 := by
  have u1 := (ug_ok ⟨n, by omega⟩).2.2.1 n1
  dsimp only at u1
  rw [sh5, paintL_get _ u1]
  by_cases q : g < span 1 n
  · rw [if_pos q, if_pos ⟨by omega, by omega⟩]
  · rw [if_neg q, if_neg (by omega)]
theorem kb_nat (sh : Nat → Int32) {b : Nat} (hb : b < 128) : kb sh (Int32.ofNat b) = k_kindForShadow (sh (b / 8)) (Int32.ofNat (b % 8)) := by
  unfold kb
  rw [if_neg (ofNat_nonneg (by omega)), if_pos ((lt_lit (m := 128) (by omega) (by decide)).mpr hb), ofNat_clamp (by omega), (shr3 ⟨b, hb⟩).2]
theorem kind_small : ∀ v w : Fin 8, k_kindForShadow (Int32.ofNat v.val) (Int32.ofNat w.val) = if v.val = 0 then 0 else if w.val < v.val then 0 else 2 := by decide
theorem kb_user {n : Nat} (n1 : 1 ≤ n) (n64 : n ≤ 64) {j : Nat} (hj : j < 8) : kb (sh5 n) (Int32.ofNat (8 + j)) = if j < n then 0 else 2 := by
  have u1 := (ug_ok ⟨n, by omega⟩).2.2.1 n1
  dsimp only at u1
  have sp : span 1 n = 2 * 1 + ug n := rfl
  have ue : ug n = (n + 7) / 8 := rfl
  rw [kb_nat _ (by omega), show (8 + j) / 8 = 1 by omega, show (8 + j) % 8 = j by omega, sh5_get n1 n64, if_pos (by omega)]
  unfold shv
  dsimp only
  rw [if_neg (by omega), if_pos (by omega), if_pos rfl]
  by_cases q : n < 8
  · have k := kind_small ⟨n, q⟩ ⟨j, hj⟩
    dsimp only at k
    rw [if_pos (by omega), Nat.mod_eq_of_lt q, k, if_neg (by omega)]
  · rw [if_pos (show j < n by omega)]
    by_cases w : 1 + 1 = 0 + 1 + ug n ∧ n % 8 ≠ 0
    · omega
    · rw [if_neg w]
      exact kind_small ⟨0, by omega⟩ ⟨j, hj⟩
theorem kb_over {n : Nat} (n1 : 1 ≤ n) (n64 : n ≤ 64) : kb (sh5 n) (Int32.ofNat (8 + n)) = 2 := by
  have u1 := (ug_ok ⟨n, by omega⟩).2.2.1 n1
  dsimp only at u1
  have sp : span 1 n = 2 * 1 + ug n := rfl
  have ue : ug n = (n + 7) / 8 := rfl
  rw [kb_nat _ (by omega), show (8 + n) / 8 = 1 + n / 8 by omega, show (8 + n) % 8 = n % 8 by omega, sh5_get n1 n64, if_pos (by omega)]
  unfold shv
  dsimp only
  rw [if_neg (by omega)]
  by_cases q : n % 8 = 0
  · rw [if_neg (by omega), q]; decide
  · have k := kind_small ⟨n % 8, by omega⟩ ⟨n % 8, by omega⟩
    dsimp only at k
    rw [if_pos (by omega), if_pos rfl, if_pos (by omega), k, if_neg q, if_neg (by omega)]
theorem kb_under {n : Nat} (n1 : 1 ≤ n) (n64 : n ≤ 64) : kb (sh5 n) (Int32.ofNat 7) = 1 := by
  have sp : span 1 n = 2 * 1 + ug n := rfl
  rw [kb_nat _ (by omega), show 7 / 8 = 0 by omega, sh5_get n1 n64, if_pos (by omega)]
  unfold shv
  dsimp only
  rw [if_pos (by omega)]
  decide
theorem write1 {s : S} (g3 : gI s 3 = 128) (l0 : (gA s 0).length = 256) (v : Int64) {j : Nat} (hj : j < 8) : k_writeLittleEndian (Int32.ofNat (8 + j)) 1 (XT.ushrL v ((8 : Int32) * Int32.ofNat j)) s = some (sA s 0 ((gA s 0).set (8 + j) (nar .byte (Int32.ofNat (byt v j)).toInt8.toInt32))) := by
  unfold k_writeLittleEndian
  have st := stored v ⟨j, hj⟩
  dsimp only at st
  rw [show BIG = 999998 + 1 + 1 from rfl, show (0 : Int32) = Int32.ofNat 0 from rfl, k_writeLittleEndian_3, if_pos (by decide), if_pos (by decide), ofNat_add', if_neg (ofNat_nonneg (by omega)), g3, if_pos ((lt_lit (m := 128) (by omega) (by decide)).mpr (by omega)), st, st_ofNat _ _ (by omega) (by omega), Option.bind_some, ofNat_succ, k_writeLittleEndian_3, if_neg (by decide)]
  rfl
theorem read_exact {s : S} (g3 : gI s 3 = 128) (v : Int64) {n : Nat} (hn : n ≤ 8) (data : ∀ i, i < n → (gA s 0)[8 + i]? = some (nar .byte (Int32.ofNat (byt v i)).toInt8.toInt32)) : ∀ m j N, j + m = n → m < N → k_readLittleEndian_5 N 8 (Int32.ofNat n) (Int64.ofNat (v.toBitVec.toNat % 2 ^ (8 * j))) (Int32.ofNat j) s = some (Int64.ofNat (v.toBitVec.toNat % 2 ^ (8 * n)))
  | _, _, 0, _, h => by omega
  | 0, j, N + 1, hj, _ => by
    have : j = n := by omega
    subst this
    rw [k_readLittleEndian_5, if_neg (by rw [ofNat_lt (by omega) (by omega)]; omega)]
  | m + 1, j, N + 1, hj, hN => by
    have e8 : (8 : Int32) + Int32.ofNat j = Int32.ofNat (8 + j) := ofNat_add' 8 j
    have lt : byt v j < 256 := Nat.mod_lt _ (by omega)
    have nb := nar_byte ⟨byt v j, lt⟩
    have bs := byte_sh ⟨byt v j, lt⟩ ⟨j, by omega⟩
    dsimp only at nb bs
    rw [k_readLittleEndian_5, if_pos (by rw [ofNat_lt (by omega) (by omega)]; omega), if_pos ((lt_lit (m := 8) (by omega) (by decide)).mpr (by omega)), e8, if_neg (ofNat_nonneg (by omega)), g3, if_pos ((lt_lit (m := 128) (by omega) (by decide)).mpr (by omega)), ix_ofNat _ (by omega), data j (by omega), Option.bind_some, nb, bs, or64, ofNat_succ]
    have acc := byt_acc v.toBitVec.toNat j
    unfold byt
    rw [acc]
    exact read_exact g3 v hn data m (j + 1) N (by omega) (by omega)
theorem val8 (v : Int64) : Int64.ofNat (v.toBitVec.toNat % 2 ^ (8 * 8)) = v := by
  apply Int64.toBitVec_inj.mp
  apply BitVec.eq_of_toNat_eq
  show (BitVec.ofNat 64 _).toNat = _
  rw [BitVec.toNat_ofNat]
  have := v.toBitVec.isLt
  omega
theorem val1 (v : Int64) : Int64.ofNat (v.toBitVec.toNat % 2 ^ (8 * 1)) = v &&& 255 := by
  apply Int64.toBitVec_inj.mp
  apply BitVec.eq_of_toNat_eq
  rw [Int64.toBitVec_and, BitVec.toNat_and, show (255 : Int64).toBitVec.toNat = 2 ^ 8 - 1 from rfl, Nat.and_two_pow_sub_one_eq_mod]
  show (BitVec.ofNat 64 _).toNat = _
  rw [BitVec.toNat_ofNat]
  omega
/-- the arena behind the alloc, j stores done -/
def St (n : Nat) (v : Int64) (c : Nat) (rs : List (Nat × Nat)) (j : Nat) (t : S) : Prop := RI 1 256 t (aupd (fun _ => none) c (some (0, n, 1))) [c] [] rs (pnt (fun _ => -1) 0 (Int32.ofNat c) (span 1 n)) (sh5 n) ∧ gI t 11 = Int32.ofNat (j - n) ∧ ∀ i, i < j → i < n → (gA t 0)[8 + i]? = some (nar .byte (Int32.ofNat (byt v i)).toInt8.toInt32)
theorem store_loop {n : Nat} (n1 : 1 ≤ n) (n64 : n ≤ 64) (v : Int64) {c : Nat} {rs : List (Nat × Nat)} (v6 v7 : Int32) : ∀ m j N t, j + m = 8 → m < N → St n v c rs j t → ∃ t', law_95 N (Int32.ofNat n) v 8 1 v6 v7 (Int32.ofNat j) t = law_159 (Int32.ofNat n) v 8 1 v6 v7 t' ∧ St n v c rs 8 t'
  | _, _, 0, _, _, h, _ => by omega
  | 0, j, N + 1, t, hj, _, h => by
    have : j = 8 := by omega
    subst this
    exact ⟨t, by rw [law_95, if_neg (by decide)], h⟩
  | m + 1, j, N + 1, t, hj, hN, h => by
    obtain ⟨R, g11, data⟩ := h
    have g3 : gI t 3 = 128 := R.2.2.2.1
    have l0 : (gA t 0).length = 256 := R.2.2.2.2.1
    have e8 : (8 : Int32) + Int32.ofNat j = Int32.ofNat (8 + j) := ofNat_add' 8 j
    have ku := kb_user n1 n64 (j := j) (by omega)
    have ad0 : ∀ b, Int32.ofNat b + Int32.ofNat 0 = Int32.ofNat b := fun b => by rw [ofNat_add']; rfl
    rw [law_95, if_pos ((lt_lit (m := 8) (by omega) (by decide)).mpr (by omega)), e8]
    unfold law_132 law_151
    by_cases q : j < n
    · rw [if_pos q] at ku
      rcases store_ok R (Int32.ofNat (8 + j)) (XT.ushrL v ((8 : Int32) * Int32.ofNat j)) (n := 1) (by omega) with ⟨s', e, ew, F, l, al⟩ | ⟨i, hi, kn, _⟩
      · rw [show Int32.ofNat 1 = (1 : Int32) from rfl] at e ew
        rw [write1 g3 l0 v (by omega)] at ew
        cases ew
        rw [e, Option.bind_some]
        dsimp only
        rw [if_neg (by decide), if_pos (show Int32.ofNat j < Int32.ofNat n by rw [ofNat_lt (by omega) (by omega)]; exact q), if_pos rfl, ofNat_succ]
        refine store_loop n1 n64 v v6 v7 m (j + 1) N _ (by omega) (by omega) ⟨R.fx (F.mono (by simp) (by simp) (by simp) (by simp)) l, ?_, fun i hi hin => ?_⟩
        · rw [gI_sA, g11]; congr 1; omega
        · rw [gA_sA, if_pos rfl]
          by_cases w : i = j
          · subst w; rw [List.getElem?_set_self (by omega)]
          · rw [List.getElem?_set_ne (by omega)]; exact data i (by omega) hin
      · exfalso
        have i0 : i = 0 := by omega
        subst i0
        rw [ad0, ku] at kn
        exact kn rfl
    · rw [if_neg q] at ku
      rcases store_ok R (Int32.ofNat (8 + j)) (XT.ushrL v ((8 : Int32) * Int32.ofNat j)) (n := 1) (by omega) with ⟨s', e, ew, F, l, al⟩ | ⟨i, hi, kn, _, e⟩
      · exfalso
        have := al 0 (by omega)
        rw [ad0, ku] at this
        cases this
      · have i0 : i = 0 := by omega
        subst i0
        rw [ad0, ku] at e
        rw [show Int32.ofNat 1 = (1 : Int32) from rfl] at e
        rw [e, Option.bind_some]
        dsimp only
        rw [if_neg (by decide), if_neg (show ¬ Int32.ofNat j < Int32.ofNat n by rw [ofNat_lt (by omega) (by omega)]; exact q), if_pos rfl, ofNat_succ]
        refine store_loop n1 n64 v v6 v7 m (j + 1) N _ (by omega) (by omega) ⟨R.fx (rec_fx _ _) (by unfold k_recordError; rw [gA_sI, gA_sI]; exact l0), ?_, fun i hi hin => ?_⟩
        · unfold k_recordError
          rw [gI_sI, if_neg (by decide), gI_sI, if_pos rfl, g11, ofNat_succ]; congr 1; omega
        · unfold k_recordError; rw [gA_sI, gA_sI]; exact data i (by omega) hin
theorem load_bad {r B : Nat} {lv q : List Nat} {s : S} {ch : Nat → Option (Nat × Nat × Nat)} {rs : List (Nat × Nat)} {own sh : Nat → Int32} (R : RI r B s ch lv q rs own sh) {b : Nat} {k : Int32} (hk : kb sh (Int32.ofNat b) = k) (k0 : k ≠ 0) : k_load (Int32.ofNat b) 1 s = some (k, k_recordError (Int32.ofNat b) s) ∧ RI r B (k_recordError (Int32.ofNat b) s) ch lv q rs own sh ∧ gI (k_recordError (Int32.ofNat b) s) 11 = gI s 11 + 1 ∧ gI (k_recordError (Int32.ofNat b) s) 10 = Int32.ofNat b := by
  have ad0 : ∀ b, Int32.ofNat b + Int32.ofNat 0 = Int32.ofNat b := fun b => by rw [ofNat_add']; rfl
  refine ⟨?_, R.fx (rec_fx _ _) (by unfold k_recordError; rw [gA_sI, gA_sI]; exact R.2.2.2.2.1), by unfold k_recordError; rw [gI_sI, if_neg (by decide), gI_sI, if_pos rfl], by unfold k_recordError; rw [gI_sI, if_pos rfl]⟩
  rcases load_ok R (Int32.ofNat b) (n := 1) (by omega) with ⟨y, e, _, al⟩ | ⟨i, hi, kn, _, e⟩
  · exfalso
    have := al 0 (by omega)
    rw [ad0, hk] at this
    exact k0 this
  · have i0 : i = 0 := by omega
    subst i0
    rw [ad0, hk] at e
    exact e
theorem law_true (v0 : Int32) (v1 : Int64) : ∃ t, law v0 v1 = some (1, t) := by
  obtain ⟨s, es, Rs, s10, s11, s9⟩ := init_RI (v1 := 16) (v2 := 1) (v3 := 256) (r := 1) (B := 256) (by decide) (by decide) (by decide)
  unfold law
  rw [es, Option.bind_some]
  have s8 : gI s 8 = 0 := Rs.2.2.2.2.2.2.2.2.2.2.2.1
  rcases alloc_any (by omega) (by omega) Rs v0 with ⟨e, bad⟩ | ⟨n, n1, n64, rfl⟩
  · rw [e, Option.bind_some]
    unfold law_32 k_liveCount
    dsimp only
    rw [if_pos rfl, s8, if_pos rfl]
    by_cases a : v0 < 1
    · rw [if_pos a]; exact ⟨_, rfl⟩
    · rw [if_neg a]
      rcases bad with w | w
      · exact absurd w a
      · rw [if_pos w]; exact ⟨_, rfl⟩
  · obtain ⟨t, c, rs, e, R, F⟩ := alloc_fresh Rs n1 n64
    obtain ⟨ua, ub, uc, ud⟩ := ug_ok ⟨n, by omega⟩
    dsimp only at ua ub uc ud
    have u1 := uc n1
    rw [e, Option.bind_some, if_neg (fun z => by have := (lt_lit (m := 1) (by omega) (by decide)).mp z; omega), if_neg (fun z => by rw [show (64 : Int32) = Int32.ofNat 64 from rfl, ofNat_lt (by omega) (by omega)] at z; omega)]
    dsimp only
    rw [if_pos rfl]
    unfold law_67 law_90
    have mm : (if Int32.ofNat n < (8 : Int32) then Int32.ofNat n else (8 : Int32)) = Int32.ofNat (if n < 8 then n else 8) := by
      by_cases q : n < 8
      · rw [if_pos ((lt_lit (m := 8) (by omega) (by decide)).mpr q), if_pos q]
      · rw [if_neg (fun z => q ((lt_lit (m := 8) (by omega) (by decide)).mp z)), if_neg q]; rfl
    obtain ⟨M, hM⟩ : ∃ M, M = if n < 8 then n else 8 := ⟨_, rfl⟩
    have M8' : M ≤ 8 ∧ 8 - M = 8 - n := by rw [hM]; split <;> omega
    rw [ua, mm, ← hM, show law_95 BIG (Int32.ofNat n) v1 8 1 (Int32.ofNat (ug n)) (Int32.ofNat M) 0 t = law_95 BIG (Int32.ofNat n) v1 8 1 (Int32.ofNat (ug n)) (Int32.ofNat M) (Int32.ofNat 0) t from rfl]
    obtain ⟨t2, e2, R2, g2, data⟩ := store_loop n1 n64 v1 (c := c) (rs := rs) (Int32.ofNat (ug n)) (Int32.ofNat M) 8 0 BIG t (by omega) (by unfold BIG; omega) ⟨R, by rw [F.1 11 (by simp), s11, Nat.zero_sub]; rfl, fun i hi => by omega⟩
    rw [e2]
    have g3 : gI t2 3 = 128 := R2.2.2.2.1
    -- the great load
    have ld : ∃ y, k_load 8 (if Int32.ofNat n < (8 : Int32) then (1 : Int32) else (8 : Int32)) t2 = some (0, sL t2 9 y) ∧ y = (if Int32.ofNat n < (8 : Int32) then v1 &&& (255 : Int64) else v1) := by
      by_cases q : n < 8
      · rw [if_pos ((lt_lit (m := 8) (by omega) (by decide)).mpr q), if_pos ((lt_lit (m := 8) (by omega) (by decide)).mpr q)]
        rcases load_ok R2 8 (n := 1) (by omega) with ⟨y, e, er, al⟩ | ⟨i, hi, kn, _, e⟩
        · refine ⟨y, e, ?_⟩
          have rx := read_exact g3 v1 (n := 1) (by omega) (fun i hi => data i (by omega) (by omega)) 1 0 BIG (by omega) (by unfold BIG; omega)
          unfold k_readLittleEndian at er
          rw [show Int64.ofNat (v1.toBitVec.toNat % 2 ^ (8 * 0)) = 0 by rw [Nat.mul_zero, Nat.pow_zero, Nat.mod_one]; rfl] at rx
          rw [show k_readLittleEndian_5 BIG 8 (Int32.ofNat 1) 0 0 t2 = _ from rx] at er
          cases er
          exact val1 v1
        · exfalso
          have i0 : i = 0 := by omega
          subst i0
          have := kb_user n1 n64 (j := 0) (by omega)
          rw [if_pos (by omega)] at this
          exact kn this
      · rw [if_neg (fun z => q ((lt_lit (m := 8) (by omega) (by decide)).mp z)), if_neg (fun z => q ((lt_lit (m := 8) (by omega) (by decide)).mp z))]
        rcases load_ok R2 8 (n := 8) (by omega) with ⟨y, e, er, al⟩ | ⟨i, hi, kn, _, e⟩
        · refine ⟨y, e, ?_⟩
          have rx := read_exact g3 v1 (n := 8) (by omega) (fun i hi => data i (by omega) (by omega)) 8 0 BIG (by omega) (by unfold BIG; omega)
          unfold k_readLittleEndian at er
          rw [show Int64.ofNat (v1.toBitVec.toNat % 2 ^ (8 * 0)) = 0 by rw [Nat.mul_zero, Nat.pow_zero, Nat.mod_one]; rfl] at rx
          rw [show k_readLittleEndian_5 BIG 8 (Int32.ofNat 8) 0 0 t2 = _ from rx] at er
          cases er
          exact val8 v1
        · exfalso
          have := kb_user n1 n64 (j := i) (by omega)
          rw [if_pos (by omega)] at this
          exact kn (by rw [show (8 : Int32) = Int32.ofNat 8 from rfl, ofNat_add']; exact this)
    obtain ⟨y, ey, vy⟩ := ld
    unfold law_159 law_171
    rw [ey, Option.bind_some]
    unfold law_204
    dsimp only
    have lv : k_lastValue (sL t2 9 y) = y := by unfold k_lastValue; rw [gL_sL, if_pos rfl]
    rw [lv, if_neg (show ¬ (1 : Int32) = 0 by decide), if_pos rfl, if_pos vy]
    have R3 : RI 1 256 (sL t2 9 y) (aupd (fun _ => none) c (some (0, n, 1))) [c] [] rs (pnt (fun _ => -1) 0 (Int32.ofNat c) (span 1 n)) (sh5 n) := R2.fx ((Fx.refl ..).sL (by simp)) (by rw [gA_sL]; exact R2.2.2.2.2.1)
    have g11 : gI (sL t2 9 y) 11 = Int32.ofNat (8 - n) := by rw [gI_sL]; exact g2
    generalize (sL t2 9 y) = t3 at R3 g11
    unfold law_229
    obtain ⟨l1, R4, c4, b4⟩ := load_bad R3 (kb_over n1 n64) (by decide)
    have e8n : (8 : Int32) + Int32.ofNat n = Int32.ofNat (8 + n) := ofNat_add' 8 n
    rw [e8n, l1, Option.bind_some]
    dsimp only
    rw [if_neg (show ¬ (1 : Int32) = 0 by decide), if_pos rfl, k_lastBadAddress, b4, if_pos rfl]
    generalize (k_recordError (Int32.ofNat (8 + n)) t3) = t4 at R4 c4 b4
    unfold law_273
    obtain ⟨l2, R5, c5, b5⟩ := load_bad R4 (kb_under n1 n64) (by decide)
    rw [show (8 : Int32) - 1 = Int32.ofNat 7 by decide, l2, Option.bind_some]
    dsimp only
    rw [if_neg (show ¬ (1 : Int32) = 0 by decide), if_pos rfl, k_lastBadAddress, b5, if_pos rfl]
    generalize (k_recordError (Int32.ofNat 7) t4) = t5 at R5 c5 b5
    unfold law_317
    have cc : (aupd (fun _ => none) c (some (0, n, 1)) : Nat → Option (Nat × Nat × Nat)) c = some (0, n, 1) := by unfold aupd; rw [if_pos rfl]
    have us := usize_new (by omega) (by omega) R5 cc
    rw [show k_userSize 8 t5 = some (Int32.ofNat n) from us, Option.bind_some, if_neg (show ¬ (1 : Int32) = 0 by decide), if_pos rfl]
    unfold law_343
    have I5 := R5.2.2.2.2.2.2.2.2.2.2.2.2
    have only : ∀ d x, (aupd (fun _ => none) c (some (0, n, 1)) : Nat → Option (Nat × Nat × Nat)) d = some x → d = c ∧ x = (0, n, 1) := fun d x hd => by
      unfold aupd at hd
      by_cases w : d = c
      · rw [if_pos w] at hd; cases hd; exact ⟨w, rfl⟩
      · rw [if_neg w] at hd; cases hd
    rcases free5 (by omega) (by omega) (by omega) R5 8 (fun d a n' hd => by
      obtain ⟨_, hx⟩ := only d _ hd
      cases hx
      show 8 * (0 + ug n + 2 * 1 * (0 + 1)) ≤ 256
      omega) with ⟨_, nn⟩ | ⟨d, x, hd, x2, _⟩ | ⟨d, a, n', t6, hd, ev, e6, R6, len, F6⟩
    · exact absurd rfl (nn c _ cc)
    · obtain ⟨_, rfl⟩ := only d x hd
      cases x2
    · obtain ⟨rfl, hx⟩ := only d _ hd
      cases hx
      change RI 1 256 t6 _ _ [d] _ _ _ at R6
      obtain ⟨ch', hch⟩ : ∃ ch', ch' = (aupd (aupd (fun _ => none) d (some (0, n, 1))) d (some (0, n, 2)) : Nat → Option (Nat × Nat × Nat)) := ⟨_, rfl⟩
      rw [← hch] at R6
      have c6 : ch' d = some (0, n, 2) := by rw [hch]; unfold aupd; rw [if_pos rfl]
      obtain ⟨sh', hsh⟩ : ∃ sh', sh' = pnt (paintL (fun _ => 254) 1 0 n) (0 + 1) 253 (ug n) := ⟨_, rfl⟩
      rw [← hsh] at R6
      have I6 := R6.2.2.2.2.2.2.2.2.2.2.2.2
      obtain ⟨_, _, _, x16, _, xk⟩ := I6.1 d _ c6
      dsimp only at x16 xk
      have sp : span 1 n = 2 * 1 + ug n := rfl
      have s1 := (xk 1 (by omega) (by omega)).2
      unfold shv at s1
      dsimp only at s1
      rw [if_neg (by omega), if_pos (by omega), if_neg (by decide)] at s1
      have qb : gI t6 6 = Int32.ofNat (8 * (usum ch' [d] + 2 * 1 * [d].length)) := R6.2.2.2.2.2.2.2.2.2.1
      have u6 : usum ch' [d] = ug n := by unfold usum; simp [c6, oN]
      have m8 : ∀ x : Fin 20, (8 : Int32) * ((2 : Int32) + Int32.ofNat x.val) = Int32.ofNat (8 * (x.val + 2)) := by decide
      have M8 := m8 ⟨ug n, by omega⟩
      dsimp only at M8
      have g6e : gI t6 6 = (8 : Int32) * ((2 : Int32) + Int32.ofNat (ug n)) := by rw [qb, u6, M8]; rfl
      have shd := shadow_ok R6 (g := 1) (by omega)
      rw [e6, Option.bind_some]
      dsimp only
      rw [show k_shadow 1 t6 = some (sh' 1) from shd, Option.bind_some, s1, if_neg (show ¬ (1 : Int32) = 0 by decide), if_pos rfl, k_quarantineBytes, if_pos g6e, if_pos rfl]
      unfold law_401
      have k3 : kb sh' (Int32.ofNat 8) = 3 := by rw [kb_nat _ (by omega), show 8 / 8 = 1 from rfl, s1]; decide
      obtain ⟨l3, R7, c7, b7⟩ := load_bad R6 k3 (by decide)
      rw [show k_load 8 1 t6 = some (3, k_recordError (Int32.ofNat 8) t6) from l3, Option.bind_some]
      dsimp only
      generalize (k_recordError (Int32.ofNat 8) t6) = t7 at R7 c7 b7
      have f1 : k_free 8 t7 = some (1, t7) := by
        have no1 : ∀ d' a n', ch' d' = some (a, n', 1) → False := fun d' a n' hd' => by
          rw [hch] at hd'
          unfold aupd at hd'
          by_cases w : d' = d
          · rw [if_pos w] at hd'; cases hd'
          · rw [if_neg w, if_neg w] at hd'; cases hd'
        rcases free5 (by omega) (by omega) (by omega) R7 8 (fun d' a n' hd' => (no1 d' a n' hd').elim) with ⟨_, nn⟩ | ⟨_, _, _, _, _, e⟩ | ⟨d', a, n', _, hd', _⟩
        · exact absurd rfl (nn d _ c6)
        · exact e
        · exact (no1 _ _ _ hd').elim
      rw [f1, Option.bind_some]
      unfold law_484 k_errorCount k_lastBadAddress k_liveCount
      dsimp only
      have s8M : (8 : Int32) - Int32.ofNat M = Int32.ofNat (8 - M) := sub_nat (a := 8) M8'.1
      have ec : gI t7 11 = ((8 : Int32) - Int32.ofNat M) + (3 : Int32) := by
        rw [c7, F6.1 11 (by simp), c5, c4, g11, ofNat_succ, ofNat_succ, ofNat_succ, s8M, ofNat_lit, M8'.2]
      have l8 : gI t7 8 = 0 := by
        have := R7.2.2.2.2.2.2.2.2.2.2.2.1
        simpa using this
      rw [if_neg (show ¬ (1 : Int32) = 0 by decide), if_pos rfl, if_pos rfl, if_pos ec, b7, if_pos (show Int32.ofNat 8 = 8 from rfl), l8, if_pos rfl]
      exact ⟨_, rfl⟩
set_option maxRecDepth 65536 in
set_option maxHeartbeats 40000000 in
theorem comes_1 {Post : Tables → Env → Array Value → State → Outcome → State → Prop} (hpost : ∀ tb e args s v u, (limb_1_1.after args s (.returned v) u = true ∧ limb_1_2.after args s (.returned v) u = true ∧ True) → FrameEnd s (.returned v) u (Jvm.fieldLocs frame_1_writes args s ++ Jvm.arrayLocs frame_1_arrays args s ++ Jvm.staticLocs frame_1_statics s) 32 1152 → Post tb e args s (.returned v) u) :
    ArmFor flags0 classFile x code maxLocals ret World_1 tables_1 room_1 Calls_1 rest_1 Pre_1 Post := by
  intro l hfl _ _ p e ha hc hk s m args below hf hA hF happ hP
  obtain ⟨hcalls, hrest, hpre⟩ := hP
  obtain ⟨-, -, -, hnamed, -, -, -, hat⟩ := (Spec.applies_iff hf).mp happ
  obtain ⟨hg, hn⟩ := and_e (Cond.before_iff.mp (show (Jvm.Cond.and given_1 narrow_1).before args s = true from hpre))
  obtain ⟨g0, b0⟩ := and_e hg
  obtain ⟨a0, b1⟩ := and_e b0
  have a1 := b1
  obtain ⟨w0, w1, rfl⟩ : ∃ w0 w1 : Value, args = #[w0, w1] := by
    have hs : args.size = 2 := by simpa [Cond.value, given_1] using g0
    obtain ⟨L⟩ := args
    match L, hs with
    | [w0, w1], _ => exact ⟨w0, w1, rfl⟩
  have hw := fun d (hd : d ∈ tables_1) => atoms_spec (ws := Jvm.Cond.code x code maxLocals ret :: tables_1) hat d (List.mem_cons_of_mem _ hd)
  have hfit : Fit s := fun {y c} hc i hi => by
    obtain ⟨ha, rfl⟩ := Array.getElem?_eq_some_iff.mp hc
    have q := List.all_eq_true.mp ((Array.all_eq_true_iff_forall_mem.mp hF) _ (Array.getElem_mem ha)) i (List.mem_range.mpr hi)
    simpa [Array.getElem?_eq_getElem hi] using q
  obtain ⟨i0, ei0⟩ := is_v a0
  obtain rfl : w0 = (.int i0) := Option.some.inj ei0
  obtain ⟨i1, ei1⟩ := isL_v a1
  obtain rfl : w1 = (.long i1) := Option.some.inj ei1
  obtain ⟨t, ht⟩ := law_true i0 i1
  have C : Call PP m47 [.int i0, .long i1] (none, []) (some (.int ((1 : Int32), t).1), (none, [(9, ((1 : Int32), t).2)])) := call_of_go pl_1 rfl (fun h => by cases h) (law_ok i0 i1 _ ht)
  obtain ⟨n, o, h1, h2, h3, _, L, rfl, ⟨rfl, N, _⟩, hq⟩ := C l s _ tables_1 0 s.heap.size s.heap.size s.heap hw (facts1 hw) (Nat.le_refl _) (repW_none ..) (Nat.zero_le _) (fun _ => ⟨rfl, rfl, rfl⟩) p e ha hc hk s m _ below hf ((Spec.applies_iff_loose hf).mp happ).1 ⟨rfl, State.Warmed39.refl s, rfl⟩ trivial
  refine ⟨n, _, h1, h2, h3, hpost _ _ _ _ _ _ ⟨Cond.after_iff.mpr rfl, Cond.after_iff.mpr (eq_i res_at (Term.int_eval (1)) rfl), trivial⟩ ⟨hq.1, hq.2.1, (hq.2.2.sift fun y hy => Or.inr (N y hy)).mono (by decide) (by decide)⟩⟩
theorem main_1_1 : Claimed_1_1 := comes_1 fun _ _ _ _ _ _ h hF => ⟨h.1, hF⟩
theorem main_1_2 : Claimed_1_2 := comes_1 fun _ _ _ _ _ _ h hF => ⟨h.2.1, hF⟩
end Jvm.Pilot.@@N@@
namespace Jvm.Pilot.@@N@@
open Jvm Jvm.ClassFile Sem Op Lib Jvm.Free Jvm.Stand Jvm.Pilot.@@N@@.Jvm.D
/-! MADE BY PROGRAM (witnessworld.py) out of the Statement's table words and the real class files: 9 classes; the members and pool entries that the words name. The judged class is class 1, her method 1. -/
namespace start1
open Jvm.ClassFile
def u (s : String) : CpInfo := .utf8 (stringToUtf16 s)
/-- a pool by its gaps: so many unusable entries, then the entry; so many at the end -/
def gap : Nat → List CpInfo → List CpInfo
  | 0, r => r
  | n + 1, r => .unusable :: gap n r
def poolList (es : List (Nat × CpInfo)) (last : Nat) : List CpInfo := es.foldr (fun e r => gap e.1 (e.2 :: r)) (gap last [])
def pool (es : List (Nat × CpInfo)) (last : Nat) : Array CpInfo := ⟨poolList es last⟩
def fileOf (pool : Array CpInfo) (this : Nat) (attrs : Array Attribute := #[]) (ms : Array MethodInfo := #[]) (fl : Nat := 33) (sup : Nat := 0) (ifs : Array Nat := #[]) (fds : Array FieldInfo := #[]) : ClassFile where
  minorVersion := 0
  majorVersion := 65
  constantPool := pool
  accessFlags := fl
  thisClass := this
  superClass := sup
  interfaces := ifs
  fields := fds
  methods := ms
  attributes := attrs
def plain (name : String) (sup : Option ClassId) : Class where
  name := name
  kind := .ordinary
  loader := none
  accessFlags := 33
  super := sup
  interfaces := #[]
  cf := none
  fields := #[]
  methods := #[]
  instanceTypes := #[]
  staticTypes := #[]
  resolved := #[]
  callSites := []
  init := .initialized
  statics := none
  mirror := none

def pool0 : Array CpInfo := pool [(5, u "<init>"), (0, u "()V"), (1, .class_ 10), (1, u "java/lang/Object")] 113

def k0c0 : Code := { maxStack := 0, maxLocals := 1, code := object_method_1_code, exceptionTable := #[], attributes := #[] }
def k0m0 : Method := { name := "<init>", desc := "()V", sig := { parameters := [], returnType := none }, accessFlags := 1, code := some k0c0 }
/-- java/lang/Object -/
def k0 : Class := { plain "java/lang/Object" none with
  accessFlags := 33
  interfaces := #[]
  cf := some (fileOf pool0 8 #[] #[{ accessFlags := 1, nameIndex := 5, descriptorIndex := 6, attributes := #[] }] 33 0 #[] #[])
  fields := #[]
  methods := #[k0m0]
  instanceTypes := #[]
  staticTypes := #[]
  resolved := Array.replicate 124 none
  statics := none }

def pool1 : Array CpInfo := pool [(2, .class_ 4), (1, u "java/lang/Object"), (0, u "<init>"), (0, u "()V"), (0, .class_ 8), (0, u "ShadowRedzoneY"), (0, .methodref 7 10), (0, .nameAndType 5 11), (0, u "(III)V"), (0, .methodref 7 13), (0, .nameAndType 14 15), (0, u "alloc"), (0, u "(I)I"), (0, .methodref 7 17), (0, .nameAndType 18 19), (0, u "liveCount"), (0, u "()I"), (0, .methodref 7 21), (0, .nameAndType 22 23), (0, u "store"), (0, u "(IIJ)I"), (0, .methodref 7 25), (0, .nameAndType 26 27), (0, u "load"), (0, u "(II)I"), (0, .methodref 7 29), (0, .nameAndType 30 31), (0, u "lastValue"), (0, u "()J"), (0, .long 255), (1, .methodref 7 35), (0, .nameAndType 36 19), (0, u "lastBadAddress"), (0, .methodref 7 38), (0, .nameAndType 39 15), (0, u "userSize"), (0, .methodref 7 41), (0, .nameAndType 42 15), (0, u "free"), (0, .methodref 7 44), (0, .nameAndType 45 19), (0, u "quarantineBytes"), (0, .methodref 7 47), (0, .nameAndType 48 15), (0, u "shadow"), (0, .methodref 7 50), (0, .nameAndType 51 19), (0, u "errorCount"), (0, .class_ 53), (0, u "ShadowRedzoneYL3"), (2, u "law"), (0, u "(IJ)Z")] 3

def k1m0 : Method := { name := "<init>", desc := "()V", sig := { parameters := [], returnType := none }, accessFlags := 1, code := none }
def k1c1 : Code := { maxStack := 7, maxLocals := 27, code := code, exceptionTable := #[], attributes := #[] }
def k1m1 : Method := { name := "law", desc := "(IJ)Z", sig := { parameters := [.int, .long], returnType := some .boolean }, accessFlags := 9, code := some k1c1 }
/-- ShadowRedzoneYL3 -/
def k1 : Class := { plain "ShadowRedzoneYL3" (some 0) with
  accessFlags := 33
  interfaces := #[]
  cf := some (fileOf pool1 52 #[] #[{ accessFlags := 1, nameIndex := 5, descriptorIndex := 6, attributes := #[] }, { accessFlags := 9, nameIndex := 56, descriptorIndex := 57, attributes := #[] }] 33 2 #[] #[])
  fields := #[]
  methods := #[k1m0, k1m1]
  instanceTypes := #[]
  staticTypes := #[]
  resolved := Array.replicate 61 none
  statics := none }

def pool2 : Array CpInfo := pool [(1, .methodref 2 3), (0, .class_ 4), (0, .nameAndType 5 6), (0, u "java/lang/Object"), (0, u "<init>"), (0, u "()V"), (0, .fieldref 8 9), (0, .class_ 10), (0, .nameAndType 11 12), (0, u "ShadowRedzoneY"), (0, u "data"), (0, u "[B"), (0, .fieldref 8 14), (0, .nameAndType 15 16), (0, u "shadowOf"), (0, u "[I"), (0, .fieldref 8 18), (0, .nameAndType 19 16), (0, u "ownerOf"), (0, .fieldref 8 21), (0, .nameAndType 22 16), (0, u "chunkStart"), (0, .fieldref 8 24), (0, .nameAndType 25 16), (0, u "chunkSize"), (0, .fieldref 8 27), (0, .nameAndType 28 12), (0, u "chunkState"), (0, .fieldref 8 30), (0, .nameAndType 31 16), (0, u "ring"), (0, .fieldref 8 33), (0, .nameAndType 34 16), (0, u "runStart"), (0, .fieldref 8 36), (0, .nameAndType 37 16), (0, u "runLength"), (0, .methodref 8 39), (0, .nameAndType 40 41), (0, u "clamp"), (0, u "(III)I"), (0, .fieldref 8 43), (0, .nameAndType 44 45), (0, u "granuleCount"), (0, u "I"), (0, .fieldref 8 47), (0, .nameAndType 48 45), (0, u "redzoneGranules"), (0, .fieldref 8 50), (0, .nameAndType 51 45), (0, u "quarantineBudget"), (0, .fieldref 8 53), (0, .nameAndType 54 45), (0, u "arenaSize"), (0, .methodref 8 56), (0, .nameAndType 57 6), (0, u "resetArena"), (0, .methodref 8 59), (0, .nameAndType 60 6), (0, u "resetChunks"), (0, .methodref 8 62), (0, .nameAndType 63 6), (0, u "resetQuarantine"), (0, .methodref 8 65), (0, .nameAndType 66 6), (0, u "resetRuns"), (0, .fieldref 8 68), (0, .nameAndType 69 45), (0, u "liveChunks"), (0, .fieldref 8 71), (0, .nameAndType 72 73), (0, u "lastLoaded"), (0, u "J"), (0, .fieldref 8 75), (0, .nameAndType 76 45), (0, u "lastBad"), (0, .fieldref 8 78), (0, .nameAndType 79 45), (0, u "errors"), (0, .methodref 8 81), (0, .nameAndType 82 83), (0, u "spanFor"), (0, u "(I)I"), (0, .methodref 8 85), (0, .nameAndType 86 83), (0, u "findRoom"), (0, .methodref 8 88), (0, .nameAndType 89 90), (0, u "findUnusedSlot"), (0, u "()I"), (0, .methodref 8 92), (0, .nameAndType 93 94), (0, u "carveFront"), (0, u "(II)V"), (0, .methodref 8 96), (0, .nameAndType 97 41), (0, u "createChunk"), (0, .methodref 8 99), (0, .nameAndType 100 83), (0, u "slotForUserAddress"), (0, .methodref 8 102), (0, .nameAndType 103 104), (0, u "isQuarantined"), (0, u "(I)Z"), (0, .methodref 8 106), (0, .nameAndType 107 104), (0, u "isLive"), (0, .methodref 8 109), (0, .nameAndType 110 111), (0, u "quarantineChunk"), (0, u "(I)V"), (0, .methodref 8 113), (0, .nameAndType 114 6), (0, u "trimToBudget"), (0, .methodref 8 116), (0, .nameAndType 117 104), (0, u "isAccessSize"), (0, .methodref 8 119), (0, .nameAndType 120 121), (0, u "checkAccess"), (0, u "(II)I"), (0, .methodref 8 123), (0, .nameAndType 124 125), (0, u "readLittleEndian"), (0, u "(II)J"), (0, .methodref 8 127), (0, .nameAndType 128 129), (0, u "writeLittleEndian"), (0, u "(IIJ)V"), (0, .fieldref 8 131), (0, .nameAndType 132 45), (0, u "ringCount"), (0, .fieldref 8 134), (0, .nameAndType 135 45), (0, u "ringBytes"), (0, .fieldref 8 137), (0, .nameAndType 138 45), (0, u "ringHead"), (0, .methodref 8 140), (0, .nameAndType 141 104), (0, u "validSlot"), (0, .methodref 8 143), (0, .nameAndType 144 83), (0, u "userAddressOf"), (0, .fieldref 8 146), (0, .nameAndType 147 45), (0, u "runCount"), (0, .methodref 8 149), (0, .nameAndType 150 83), (0, u "userGranulesFor"), (0, .methodref 8 152), (0, .nameAndType 153 83), (0, u "userGranule"), (0, .methodref 8 155), (0, .nameAndType 156 83), (0, u "rightGranule"), (0, .methodref 8 158), (0, .nameAndType 159 160), (0, u "paintRange"), (0, u "(III)V"), (0, .methodref 8 162), (0, .nameAndType 163 160), (0, u "setOwner"), (0, .methodref 8 165), (0, .nameAndType 166 111), (0, u "paintLiveChunk"), (0, .methodref 8 168), (0, .nameAndType 169 111), (0, u "zeroRequested"), (0, .methodref 8 171), (0, .nameAndType 172 111), (0, u "paintQuarantined"), (0, .methodref 8 174), (0, .nameAndType 175 111), (0, u "enqueue"), (6, .methodref 8 183), (0, .nameAndType 184 83), (0, u "weightOf"), (3, .methodref 8 189), (0, .nameAndType 190 83), (0, u "findFitRun"), (9, .methodref 8 201), (0, .nameAndType 202 83), (0, u "byteKind"), (0, .methodref 8 204), (0, .nameAndType 205 111), (0, u "recordError"), (0, .methodref 8 207), (0, .nameAndType 208 121), (0, u "kindForShadow"), (0, .long 255), (1, u "SHADOW_LEFT"), (2, u "SHADOW_RIGHT"), (1, u "SHADOW_FREED"), (1, u "SHADOW_WILD"), (1, u "KIND_OK"), (1, u "KIND_LEFT_UNDERFLOW"), (1, u "KIND_RIGHT_OVERFLOW"), (1, u "KIND_USE_AFTER_FREE"), (1, u "KIND_WILD"), (1, u "KIND_OUT_OF_ARENA"), (1, u "KIND_BAD_SIZE"), (1, u "ALLOC_BAD_SIZE"), (1, u "ALLOC_NO_ROOM"), (1, u "FREE_OK"), (0, u "FREE_DOUBLE"), (0, u "FREE_INVALID"), (0, u "MAX_SIZE"), (3, u "alloc"), (1, u "free"), (0, u "load"), (0, u "store"), (0, u "(IIJ)I"), (0, u "lastValue"), (0, u "()J"), (0, u "lastBadAddress"), (0, u "errorCount"), (0, u "shadow"), (0, u "userSize"), (0, u "liveCount"), (1, u "quarantineBytes")] 5

def k2c0 : Code := { maxStack := 5, maxLocals := 4, code := prog_1_method_1_code, exceptionTable := #[], attributes := #[] }
def k2m0 : Method := { name := "<init>", desc := "(III)V", sig := { parameters := [.int, .int, .int], returnType := none }, accessFlags := 1, code := some k2c0 }
def k2c1 : Code := { maxStack := 4, maxLocals := 6, code := prog_1_method_2_code, exceptionTable := #[], attributes := #[] }
def k2m1 : Method := { name := "alloc", desc := "(I)I", sig := { parameters := [.int], returnType := some .int }, accessFlags := 1, code := some k2c1 }
def k2c2 : Code := { maxStack := 2, maxLocals := 3, code := prog_1_method_3_code, exceptionTable := #[], attributes := #[] }
def k2m2 : Method := { name := "free", desc := "(I)I", sig := { parameters := [.int], returnType := some .int }, accessFlags := 1, code := some k2c2 }
def k2c3 : Code := { maxStack := 4, maxLocals := 4, code := prog_1_method_4_code, exceptionTable := #[], attributes := #[] }
def k2m3 : Method := { name := "load", desc := "(II)I", sig := { parameters := [.int, .int], returnType := some .int }, accessFlags := 1, code := some k2c3 }
def k2c4 : Code := { maxStack := 5, maxLocals := 6, code := prog_1_method_5_code, exceptionTable := #[], attributes := #[] }
def k2m4 : Method := { name := "store", desc := "(IIJ)I", sig := { parameters := [.int, .int, .long], returnType := some .int }, accessFlags := 1, code := some k2c4 }
def k2c5 : Code := { maxStack := 2, maxLocals := 1, code := prog_1_method_6_code, exceptionTable := #[], attributes := #[] }
def k2m5 : Method := { name := "lastValue", desc := "()J", sig := { parameters := [], returnType := some .long }, accessFlags := 1, code := some k2c5 }
def k2c6 : Code := { maxStack := 1, maxLocals := 1, code := prog_1_method_7_code, exceptionTable := #[], attributes := #[] }
def k2m6 : Method := { name := "lastBadAddress", desc := "()I", sig := { parameters := [], returnType := some .int }, accessFlags := 1, code := some k2c6 }
def k2c7 : Code := { maxStack := 1, maxLocals := 1, code := prog_1_method_8_code, exceptionTable := #[], attributes := #[] }
def k2m7 : Method := { name := "errorCount", desc := "()I", sig := { parameters := [], returnType := some .int }, accessFlags := 1, code := some k2c7 }
def k2c8 : Code := { maxStack := 2, maxLocals := 2, code := prog_1_method_9_code, exceptionTable := #[], attributes := #[] }
def k2m8 : Method := { name := "shadow", desc := "(I)I", sig := { parameters := [.int], returnType := some .int }, accessFlags := 1, code := some k2c8 }
def k2c9 : Code := { maxStack := 2, maxLocals := 3, code := prog_1_method_10_code, exceptionTable := #[], attributes := #[] }
def k2m9 : Method := { name := "userSize", desc := "(I)I", sig := { parameters := [.int], returnType := some .int }, accessFlags := 1, code := some k2c9 }
def k2c10 : Code := { maxStack := 1, maxLocals := 1, code := prog_1_method_11_code, exceptionTable := #[], attributes := #[] }
def k2m10 : Method := { name := "liveCount", desc := "()I", sig := { parameters := [], returnType := some .int }, accessFlags := 1, code := some k2c10 }
def k2c11 : Code := { maxStack := 1, maxLocals := 1, code := prog_1_method_13_code, exceptionTable := #[], attributes := #[] }
def k2m11 : Method := { name := "quarantineBytes", desc := "()I", sig := { parameters := [], returnType := some .int }, accessFlags := 1, code := some k2c11 }
def k2c12 : Code := { maxStack := 2, maxLocals := 4, code := prog_1_method_17_code, exceptionTable := #[], attributes := #[] }
def k2m12 : Method := { name := "clamp", desc := "(III)I", sig := { parameters := [.int, .int, .int], returnType := some .int }, accessFlags := 2, code := some k2c12 }
def k2c13 : Code := { maxStack := 3, maxLocals := 2, code := prog_1_method_18_code, exceptionTable := #[], attributes := #[] }
def k2m13 : Method := { name := "resetArena", desc := "()V", sig := { parameters := [], returnType := none }, accessFlags := 2, code := some k2c13 }
def k2c14 : Code := { maxStack := 3, maxLocals := 2, code := prog_1_method_19_code, exceptionTable := #[], attributes := #[] }
def k2m14 : Method := { name := "resetChunks", desc := "()V", sig := { parameters := [], returnType := none }, accessFlags := 2, code := some k2c14 }
def k2c15 : Code := { maxStack := 3, maxLocals := 2, code := prog_1_method_20_code, exceptionTable := #[], attributes := #[] }
def k2m15 : Method := { name := "resetQuarantine", desc := "()V", sig := { parameters := [], returnType := none }, accessFlags := 2, code := some k2c15 }
def k2c16 : Code := { maxStack := 3, maxLocals := 2, code := prog_1_method_21_code, exceptionTable := #[], attributes := #[] }
def k2m16 : Method := { name := "resetRuns", desc := "()V", sig := { parameters := [], returnType := none }, accessFlags := 2, code := some k2c16 }
def k2c17 : Code := { maxStack := 2, maxLocals := 2, code := prog_1_method_22_code, exceptionTable := #[], attributes := #[] }
def k2m17 : Method := { name := "validSlot", desc := "(I)Z", sig := { parameters := [.int], returnType := some .boolean }, accessFlags := 2, code := some k2c17 }
def k2c18 : Code := { maxStack := 2, maxLocals := 2, code := prog_1_method_23_code, exceptionTable := #[], attributes := #[] }
def k2m18 : Method := { name := "isLive", desc := "(I)Z", sig := { parameters := [.int], returnType := some .boolean }, accessFlags := 2, code := some k2c18 }
def k2c19 : Code := { maxStack := 2, maxLocals := 2, code := prog_1_method_24_code, exceptionTable := #[], attributes := #[] }
def k2m19 : Method := { name := "isQuarantined", desc := "(I)Z", sig := { parameters := [.int], returnType := some .boolean }, accessFlags := 2, code := some k2c19 }
def k2c20 : Code := { maxStack := 2, maxLocals := 2, code := prog_1_method_25_code, exceptionTable := #[], attributes := #[] }
def k2m20 : Method := { name := "findUnusedSlot", desc := "()I", sig := { parameters := [], returnType := some .int }, accessFlags := 2, code := some k2c20 }
def k2c21 : Code := { maxStack := 2, maxLocals := 2, code := prog_1_method_26_code, exceptionTable := #[], attributes := #[] }
def k2m21 : Method := { name := "userGranulesFor", desc := "(I)I", sig := { parameters := [.int], returnType := some .int }, accessFlags := 2, code := some k2c21 }
def k2c22 : Code := { maxStack := 3, maxLocals := 2, code := prog_1_method_27_code, exceptionTable := #[], attributes := #[] }
def k2m22 : Method := { name := "spanFor", desc := "(I)I", sig := { parameters := [.int], returnType := some .int }, accessFlags := 2, code := some k2c22 }
def k2c23 : Code := { maxStack := 3, maxLocals := 3, code := prog_1_method_28_code, exceptionTable := #[], attributes := #[] }
def k2m23 : Method := { name := "weightOf", desc := "(I)I", sig := { parameters := [.int], returnType := some .int }, accessFlags := 2, code := some k2c23 }
def k2c24 : Code := { maxStack := 2, maxLocals := 2, code := prog_1_method_29_code, exceptionTable := #[], attributes := #[] }
def k2m24 : Method := { name := "userGranule", desc := "(I)I", sig := { parameters := [.int], returnType := some .int }, accessFlags := 2, code := some k2c24 }
def k2c25 : Code := { maxStack := 2, maxLocals := 3, code := prog_1_method_30_code, exceptionTable := #[], attributes := #[] }
def k2m25 : Method := { name := "userAddressOf", desc := "(I)I", sig := { parameters := [.int], returnType := some .int }, accessFlags := 2, code := some k2c25 }
def k2c26 : Code := { maxStack := 3, maxLocals := 3, code := prog_1_method_31_code, exceptionTable := #[], attributes := #[] }
def k2m26 : Method := { name := "rightGranule", desc := "(I)I", sig := { parameters := [.int], returnType := some .int }, accessFlags := 2, code := some k2c26 }
def k2c27 : Code := { maxStack := 2, maxLocals := 4, code := prog_1_method_32_code, exceptionTable := #[], attributes := #[] }
def k2m27 : Method := { name := "slotForUserAddress", desc := "(I)I", sig := { parameters := [.int], returnType := some .int }, accessFlags := 2, code := some k2c27 }
def k2c28 : Code := { maxStack := 3, maxLocals := 6, code := prog_1_method_33_code, exceptionTable := #[], attributes := #[] }
def k2m28 : Method := { name := "paintRange", desc := "(III)V", sig := { parameters := [.int, .int, .int], returnType := none }, accessFlags := 2, code := some k2c28 }
def k2c29 : Code := { maxStack := 3, maxLocals := 6, code := prog_1_method_34_code, exceptionTable := #[], attributes := #[] }
def k2m29 : Method := { name := "setOwner", desc := "(III)V", sig := { parameters := [.int, .int, .int], returnType := none }, accessFlags := 2, code := some k2c29 }
def k2c30 : Code := { maxStack := 4, maxLocals := 9, code := prog_1_method_35_code, exceptionTable := #[], attributes := #[] }
def k2m30 : Method := { name := "paintLiveChunk", desc := "(I)V", sig := { parameters := [.int], returnType := none }, accessFlags := 2, code := some k2c30 }
def k2c31 : Code := { maxStack := 4, maxLocals := 5, code := prog_1_method_36_code, exceptionTable := #[], attributes := #[] }
def k2m31 : Method := { name := "paintQuarantined", desc := "(I)V", sig := { parameters := [.int], returnType := none }, accessFlags := 2, code := some k2c31 }
def k2c32 : Code := { maxStack := 3, maxLocals := 6, code := prog_1_method_37_code, exceptionTable := #[], attributes := #[] }
def k2m32 : Method := { name := "zeroRequested", desc := "(I)V", sig := { parameters := [.int], returnType := none }, accessFlags := 2, code := some k2c32 }
def k2c33 : Code := { maxStack := 4, maxLocals := 5, code := prog_1_method_38_code, exceptionTable := #[], attributes := #[] }
def k2m33 : Method := { name := "createChunk", desc := "(III)I", sig := { parameters := [.int, .int, .int], returnType := some .int }, accessFlags := 2, code := some k2c33 }
def k2c34 : Code := { maxStack := 3, maxLocals := 2, code := prog_1_method_39_code, exceptionTable := #[], attributes := #[] }
def k2m34 : Method := { name := "quarantineChunk", desc := "(I)V", sig := { parameters := [.int], returnType := none }, accessFlags := 2, code := some k2c34 }
def k2c35 : Code := { maxStack := 4, maxLocals := 3, code := prog_1_method_41_code, exceptionTable := #[], attributes := #[] }
def k2m35 : Method := { name := "enqueue", desc := "(I)V", sig := { parameters := [.int], returnType := none }, accessFlags := 2, code := some k2c35 }
def k2c36 : Code := { maxStack := 2, maxLocals := 2, code := prog_1_method_43_code, exceptionTable := #[], attributes := #[] }
def k2m36 : Method := { name := "trimToBudget", desc := "()V", sig := { parameters := [], returnType := none }, accessFlags := 2, code := some k2c36 }
def k2c37 : Code := { maxStack := 2, maxLocals := 4, code := prog_1_method_44_code, exceptionTable := #[], attributes := #[] }
def k2m37 : Method := { name := "findRoom", desc := "(I)I", sig := { parameters := [.int], returnType := some .int }, accessFlags := 2, code := some k2c37 }
def k2c38 : Code := { maxStack := 2, maxLocals := 3, code := prog_1_method_45_code, exceptionTable := #[], attributes := #[] }
def k2m38 : Method := { name := "findFitRun", desc := "(I)I", sig := { parameters := [.int], returnType := some .int }, accessFlags := 2, code := some k2c38 }
def k2c39 : Code := { maxStack := 4, maxLocals := 3, code := prog_1_method_46_code, exceptionTable := #[], attributes := #[] }
def k2m39 : Method := { name := "carveFront", desc := "(II)V", sig := { parameters := [.int, .int], returnType := none }, accessFlags := 2, code := some k2c39 }
def k2c40 : Code := { maxStack := 2, maxLocals := 2, code := prog_1_method_51_code, exceptionTable := #[], attributes := #[] }
def k2m40 : Method := { name := "isAccessSize", desc := "(I)Z", sig := { parameters := [.int], returnType := some .boolean }, accessFlags := 2, code := some k2c40 }
def k2c41 : Code := { maxStack := 2, maxLocals := 6, code := prog_1_method_52_code, exceptionTable := #[], attributes := #[] }
def k2m41 : Method := { name := "checkAccess", desc := "(II)I", sig := { parameters := [.int, .int], returnType := some .int }, accessFlags := 2, code := some k2c41 }
def k2c42 : Code := { maxStack := 3, maxLocals := 2, code := prog_1_method_53_code, exceptionTable := #[], attributes := #[] }
def k2m42 : Method := { name := "recordError", desc := "(I)V", sig := { parameters := [.int], returnType := none }, accessFlags := 2, code := some k2c42 }
def k2c43 : Code := { maxStack := 3, maxLocals := 5, code := prog_1_method_54_code, exceptionTable := #[], attributes := #[] }
def k2m43 : Method := { name := "byteKind", desc := "(I)I", sig := { parameters := [.int], returnType := some .int }, accessFlags := 2, code := some k2c43 }
def k2c44 : Code := { maxStack := 2, maxLocals := 3, code := prog_1_method_55_code, exceptionTable := #[], attributes := #[] }
def k2m44 : Method := { name := "kindForShadow", desc := "(II)I", sig := { parameters := [.int, .int], returnType := some .int }, accessFlags := 2, code := some k2c44 }
def k2c45 : Code := { maxStack := 6, maxLocals := 9, code := prog_1_method_56_code, exceptionTable := #[], attributes := #[] }
def k2m45 : Method := { name := "readLittleEndian", desc := "(II)J", sig := { parameters := [.int, .int], returnType := some .long }, accessFlags := 2, code := some k2c45 }
def k2c46 : Code := { maxStack := 6, maxLocals := 7, code := prog_1_method_57_code, exceptionTable := #[], attributes := #[] }
def k2m46 : Method := { name := "writeLittleEndian", desc := "(IIJ)V", sig := { parameters := [.int, .int, .long], returnType := none }, accessFlags := 2, code := some k2c46 }
/-- ShadowRedzoneY -/
def k2 : Class := { plain "ShadowRedzoneY" (some 0) with
  accessFlags := 49
  interfaces := #[]
  cf := some (fileOf pool2 8 #[] #[{ accessFlags := 1, nameIndex := 5, descriptorIndex := 160, attributes := #[] }, { accessFlags := 1, nameIndex := 245, descriptorIndex := 83, attributes := #[] }, { accessFlags := 1, nameIndex := 247, descriptorIndex := 83, attributes := #[] }, { accessFlags := 1, nameIndex := 248, descriptorIndex := 121, attributes := #[] }, { accessFlags := 1, nameIndex := 249, descriptorIndex := 250, attributes := #[] }, { accessFlags := 1, nameIndex := 251, descriptorIndex := 252, attributes := #[] }, { accessFlags := 1, nameIndex := 253, descriptorIndex := 90, attributes := #[] }, { accessFlags := 1, nameIndex := 254, descriptorIndex := 90, attributes := #[] }, { accessFlags := 1, nameIndex := 255, descriptorIndex := 83, attributes := #[] }, { accessFlags := 1, nameIndex := 256, descriptorIndex := 83, attributes := #[] }, { accessFlags := 1, nameIndex := 257, descriptorIndex := 90, attributes := #[] }, { accessFlags := 1, nameIndex := 259, descriptorIndex := 90, attributes := #[] }, { accessFlags := 2, nameIndex := 40, descriptorIndex := 41, attributes := #[] }, { accessFlags := 2, nameIndex := 57, descriptorIndex := 6, attributes := #[] }, { accessFlags := 2, nameIndex := 60, descriptorIndex := 6, attributes := #[] }, { accessFlags := 2, nameIndex := 63, descriptorIndex := 6, attributes := #[] }, { accessFlags := 2, nameIndex := 66, descriptorIndex := 6, attributes := #[] }, { accessFlags := 2, nameIndex := 141, descriptorIndex := 104, attributes := #[] }, { accessFlags := 2, nameIndex := 107, descriptorIndex := 104, attributes := #[] }, { accessFlags := 2, nameIndex := 103, descriptorIndex := 104, attributes := #[] }, { accessFlags := 2, nameIndex := 89, descriptorIndex := 90, attributes := #[] }, { accessFlags := 2, nameIndex := 150, descriptorIndex := 83, attributes := #[] }, { accessFlags := 2, nameIndex := 82, descriptorIndex := 83, attributes := #[] }, { accessFlags := 2, nameIndex := 184, descriptorIndex := 83, attributes := #[] }, { accessFlags := 2, nameIndex := 153, descriptorIndex := 83, attributes := #[] }, { accessFlags := 2, nameIndex := 144, descriptorIndex := 83, attributes := #[] }, { accessFlags := 2, nameIndex := 156, descriptorIndex := 83, attributes := #[] }, { accessFlags := 2, nameIndex := 100, descriptorIndex := 83, attributes := #[] }, { accessFlags := 2, nameIndex := 159, descriptorIndex := 160, attributes := #[] }, { accessFlags := 2, nameIndex := 163, descriptorIndex := 160, attributes := #[] }, { accessFlags := 2, nameIndex := 166, descriptorIndex := 111, attributes := #[] }, { accessFlags := 2, nameIndex := 172, descriptorIndex := 111, attributes := #[] }, { accessFlags := 2, nameIndex := 169, descriptorIndex := 111, attributes := #[] }, { accessFlags := 2, nameIndex := 97, descriptorIndex := 41, attributes := #[] }, { accessFlags := 2, nameIndex := 110, descriptorIndex := 111, attributes := #[] }, { accessFlags := 2, nameIndex := 175, descriptorIndex := 111, attributes := #[] }, { accessFlags := 2, nameIndex := 114, descriptorIndex := 6, attributes := #[] }, { accessFlags := 2, nameIndex := 86, descriptorIndex := 83, attributes := #[] }, { accessFlags := 2, nameIndex := 190, descriptorIndex := 83, attributes := #[] }, { accessFlags := 2, nameIndex := 93, descriptorIndex := 94, attributes := #[] }, { accessFlags := 2, nameIndex := 117, descriptorIndex := 104, attributes := #[] }, { accessFlags := 2, nameIndex := 120, descriptorIndex := 121, attributes := #[] }, { accessFlags := 2, nameIndex := 205, descriptorIndex := 111, attributes := #[] }, { accessFlags := 2, nameIndex := 202, descriptorIndex := 83, attributes := #[] }, { accessFlags := 2, nameIndex := 208, descriptorIndex := 121, attributes := #[] }, { accessFlags := 2, nameIndex := 124, descriptorIndex := 125, attributes := #[] }, { accessFlags := 2, nameIndex := 128, descriptorIndex := 129, attributes := #[] }] 49 2 #[] #[{ accessFlags := 25, nameIndex := 211, descriptorIndex := 45, attributes := #[] }, { accessFlags := 25, nameIndex := 214, descriptorIndex := 45, attributes := #[] }, { accessFlags := 25, nameIndex := 216, descriptorIndex := 45, attributes := #[] }, { accessFlags := 25, nameIndex := 218, descriptorIndex := 45, attributes := #[] }, { accessFlags := 25, nameIndex := 220, descriptorIndex := 45, attributes := #[] }, { accessFlags := 25, nameIndex := 222, descriptorIndex := 45, attributes := #[] }, { accessFlags := 25, nameIndex := 224, descriptorIndex := 45, attributes := #[] }, { accessFlags := 25, nameIndex := 226, descriptorIndex := 45, attributes := #[] }, { accessFlags := 25, nameIndex := 228, descriptorIndex := 45, attributes := #[] }, { accessFlags := 25, nameIndex := 230, descriptorIndex := 45, attributes := #[] }, { accessFlags := 25, nameIndex := 232, descriptorIndex := 45, attributes := #[] }, { accessFlags := 25, nameIndex := 234, descriptorIndex := 45, attributes := #[] }, { accessFlags := 25, nameIndex := 236, descriptorIndex := 45, attributes := #[] }, { accessFlags := 25, nameIndex := 238, descriptorIndex := 45, attributes := #[] }, { accessFlags := 25, nameIndex := 239, descriptorIndex := 45, attributes := #[] }, { accessFlags := 25, nameIndex := 240, descriptorIndex := 45, attributes := #[] }, { accessFlags := 25, nameIndex := 241, descriptorIndex := 45, attributes := #[] }, { accessFlags := 2, nameIndex := 44, descriptorIndex := 45, attributes := #[] }, { accessFlags := 2, nameIndex := 48, descriptorIndex := 45, attributes := #[] }, { accessFlags := 2, nameIndex := 51, descriptorIndex := 45, attributes := #[] }, { accessFlags := 2, nameIndex := 54, descriptorIndex := 45, attributes := #[] }, { accessFlags := 18, nameIndex := 11, descriptorIndex := 12, attributes := #[] }, { accessFlags := 18, nameIndex := 15, descriptorIndex := 16, attributes := #[] }, { accessFlags := 18, nameIndex := 19, descriptorIndex := 16, attributes := #[] }, { accessFlags := 18, nameIndex := 22, descriptorIndex := 16, attributes := #[] }, { accessFlags := 18, nameIndex := 25, descriptorIndex := 16, attributes := #[] }, { accessFlags := 18, nameIndex := 28, descriptorIndex := 12, attributes := #[] }, { accessFlags := 18, nameIndex := 31, descriptorIndex := 16, attributes := #[] }, { accessFlags := 2, nameIndex := 138, descriptorIndex := 45, attributes := #[] }, { accessFlags := 2, nameIndex := 132, descriptorIndex := 45, attributes := #[] }, { accessFlags := 2, nameIndex := 135, descriptorIndex := 45, attributes := #[] }, { accessFlags := 18, nameIndex := 34, descriptorIndex := 16, attributes := #[] }, { accessFlags := 18, nameIndex := 37, descriptorIndex := 16, attributes := #[] }, { accessFlags := 2, nameIndex := 147, descriptorIndex := 45, attributes := #[] }, { accessFlags := 2, nameIndex := 69, descriptorIndex := 45, attributes := #[] }, { accessFlags := 2, nameIndex := 72, descriptorIndex := 73, attributes := #[] }, { accessFlags := 2, nameIndex := 76, descriptorIndex := 45, attributes := #[] }, { accessFlags := 2, nameIndex := 79, descriptorIndex := 45, attributes := #[] }])
  fields := #[{ name := "SHADOW_LEFT", type := .int, accessFlags := 25, slot := 0, constantValue := 0 }, { name := "SHADOW_RIGHT", type := .int, accessFlags := 25, slot := 1, constantValue := 0 }, { name := "SHADOW_FREED", type := .int, accessFlags := 25, slot := 2, constantValue := 0 }, { name := "SHADOW_WILD", type := .int, accessFlags := 25, slot := 3, constantValue := 0 }, { name := "KIND_OK", type := .int, accessFlags := 25, slot := 4, constantValue := 0 }, { name := "KIND_LEFT_UNDERFLOW", type := .int, accessFlags := 25, slot := 5, constantValue := 0 }, { name := "KIND_RIGHT_OVERFLOW", type := .int, accessFlags := 25, slot := 6, constantValue := 0 }, { name := "KIND_USE_AFTER_FREE", type := .int, accessFlags := 25, slot := 7, constantValue := 0 }, { name := "KIND_WILD", type := .int, accessFlags := 25, slot := 8, constantValue := 0 }, { name := "KIND_OUT_OF_ARENA", type := .int, accessFlags := 25, slot := 9, constantValue := 0 }, { name := "KIND_BAD_SIZE", type := .int, accessFlags := 25, slot := 10, constantValue := 0 }, { name := "ALLOC_BAD_SIZE", type := .int, accessFlags := 25, slot := 11, constantValue := 0 }, { name := "ALLOC_NO_ROOM", type := .int, accessFlags := 25, slot := 12, constantValue := 0 }, { name := "FREE_OK", type := .int, accessFlags := 25, slot := 13, constantValue := 0 }, { name := "FREE_DOUBLE", type := .int, accessFlags := 25, slot := 14, constantValue := 0 }, { name := "FREE_INVALID", type := .int, accessFlags := 25, slot := 15, constantValue := 0 }, { name := "MAX_SIZE", type := .int, accessFlags := 25, slot := 16, constantValue := 0 }, { name := "granuleCount", type := .int, accessFlags := 2, slot := 0, constantValue := 0 }, { name := "redzoneGranules", type := .int, accessFlags := 2, slot := 1, constantValue := 0 }, { name := "quarantineBudget", type := .int, accessFlags := 2, slot := 2, constantValue := 0 }, { name := "arenaSize", type := .int, accessFlags := 2, slot := 3, constantValue := 0 }, { name := "data", type := (.array .byte), accessFlags := 18, slot := 4, constantValue := 0 }, { name := "shadowOf", type := (.array .int), accessFlags := 18, slot := 5, constantValue := 0 }, { name := "ownerOf", type := (.array .int), accessFlags := 18, slot := 6, constantValue := 0 }, { name := "chunkStart", type := (.array .int), accessFlags := 18, slot := 7, constantValue := 0 }, { name := "chunkSize", type := (.array .int), accessFlags := 18, slot := 8, constantValue := 0 }, { name := "chunkState", type := (.array .byte), accessFlags := 18, slot := 9, constantValue := 0 }, { name := "ring", type := (.array .int), accessFlags := 18, slot := 10, constantValue := 0 }, { name := "ringHead", type := .int, accessFlags := 2, slot := 11, constantValue := 0 }, { name := "ringCount", type := .int, accessFlags := 2, slot := 12, constantValue := 0 }, { name := "ringBytes", type := .int, accessFlags := 2, slot := 13, constantValue := 0 }, { name := "runStart", type := (.array .int), accessFlags := 18, slot := 14, constantValue := 0 }, { name := "runLength", type := (.array .int), accessFlags := 18, slot := 15, constantValue := 0 }, { name := "runCount", type := .int, accessFlags := 2, slot := 16, constantValue := 0 }, { name := "liveChunks", type := .int, accessFlags := 2, slot := 17, constantValue := 0 }, { name := "lastLoaded", type := .long, accessFlags := 2, slot := 18, constantValue := 0 }, { name := "lastBad", type := .int, accessFlags := 2, slot := 19, constantValue := 0 }, { name := "errors", type := .int, accessFlags := 2, slot := 20, constantValue := 0 }]
  methods := #[k2m0, k2m1, k2m2, k2m3, k2m4, k2m5, k2m6, k2m7, k2m8, k2m9, k2m10, k2m11, k2m12, k2m13, k2m14, k2m15, k2m16, k2m17, k2m18, k2m19, k2m20, k2m21, k2m22, k2m23, k2m24, k2m25, k2m26, k2m27, k2m28, k2m29, k2m30, k2m31, k2m32, k2m33, k2m34, k2m35, k2m36, k2m37, k2m38, k2m39, k2m40, k2m41, k2m42, k2m43, k2m44, k2m45, k2m46]
  instanceTypes := #[.int, .int, .int, .int, (.array .byte), (.array .int), (.array .int), (.array .int), (.array .int), (.array .byte), (.array .int), .int, .int, .int, (.array .int), (.array .int), .int, .int, .long, .int, .int]
  staticTypes := #[.int, .int, .int, .int, .int, .int, .int, .int, .int, .int, .int, .int, .int, .int, .int, .int, .int]
  resolved := Array.replicate 265 none
  statics := none }

def pool3 : Array CpInfo := pool [(1, u "java/lang/Cloneable"), (0, .class_ 1), (0, u "java/lang/Object"), (0, .class_ 3)] 3

/-- java/lang/Cloneable -/
def k3 : Class := { plain "java/lang/Cloneable" (some 0) with
  accessFlags := 1537
  interfaces := #[]
  cf := some (fileOf pool3 2 #[] #[] 1537 4 #[] #[])
  fields := #[]
  methods := #[]
  instanceTypes := #[]
  staticTypes := #[]
  resolved := Array.replicate 8 none
  statics := none }

def pool4 : Array CpInfo := pool [(1, u "java/io/Serializable"), (0, .class_ 1), (0, u "java/lang/Object"), (0, .class_ 3)] 3

/-- java/io/Serializable -/
def k4 : Class := { plain "java/io/Serializable" (some 0) with
  accessFlags := 1537
  interfaces := #[]
  cf := some (fileOf pool4 2 #[] #[] 1537 4 #[] #[])
  fields := #[]
  methods := #[]
  instanceTypes := #[]
  staticTypes := #[]
  resolved := Array.replicate 8 none
  statics := none }

/-- the primitive byte -/
def k5 : Class := { plain "byte" none with kind := .primitive 'B', accessFlags := 0x411 }
/-- [B -/
def k6 : Class := { plain "[B" (some 0) with kind := .array 5 .byte, interfaces := #[3, 4], accessFlags := 1041 }

/-- the primitive int -/
def k7 : Class := { plain "int" none with kind := .primitive 'I', accessFlags := 0x411 }
/-- [I -/
def k8 : Class := { plain "[I" (some 0) with kind := .array 7 .int, interfaces := #[3, 4], accessFlags := 1041 }

def heap : Heap := #[]
def classes : Array Class := #[k0, k1, k2, k3, k4, k5, k6, k7, k8]
def interned : List (Array UInt16 × Addr) := []
def slotsUsed : Nat := 0
def theMethod : MethodId := ⟨1, 1⟩
def args0 : Array Value := #[.int 5, .long 5]
def aboutOver (below : List Frame) : State where
  vm := { classes := classes, interned := interned.toArray }
  heap := heap
  slotsUsed := slotsUsed
  threads := #[{ frames := .invoking theMethod args0 :: below }]
def below0 : List Frame := [.native { method := ⟨0, 0⟩, args := #[] }]
def about1 : State := aboutOver below0
def p0 : Program := .bare "" "" ""
def e0 : Env := launch0.env 0 0 0
theorem w_frames : about1.frames = Frame.invoking theMethod args0 :: below0 := rfl
set_option maxRecDepth 65536 in
theorem w_args : argsFit about1.vm theMethod args0 = true := by decide +kernel
set_option maxRecDepth 65536 in
theorem w_heap : heapFits about1 = true := by decide +kernel
set_option maxRecDepth 65536 in
theorem w_runnable : about1.curStatus? = some .runnable := by decide +kernel
set_option maxRecDepth 65536 in
theorem w_alone : about1.alone = true := by decide +kernel
set_option maxRecDepth 65536 in
theorem w_named : about1.methodNamed? x = some theMethod := by decide +kernel
set_option maxRecDepth 65536 in
theorem w_hears : about1.hears theMethod below0 = true := by decide +kernel
set_option maxRecDepth 65536 in
theorem w_ripe : about1.ripe theMethod args0 below0 = true := by decide +kernel
theorem w_running : about1.status = .running := rfl
set_option maxRecDepth 65536 in
theorem w_room : about1.hasRoom e0.platform room_1 = true :=
  launch0.hasRoom_least _ room_1 (by decide +kernel) (by decide +kernel) (by decide +kernel) (by decide +kernel) (by decide +kernel) (by decide +kernel)
theorem allAtoms_all (ts : List Jvm.Cond) (a : Array Jvm.Value) (st : Jvm.State) : (allAtoms ts).before a st = ts.all (fun c => c.before a st) := by
  induction ts with
  | nil => rfl
  | cons c t ih =>
    show (Jvm.Cond.and c (allAtoms t)).before a st = _
    rw [Jvm.Cond.before_and, ih, List.all_cons]
def words1 : List Jvm.Cond := Jvm.Cond.code x code maxLocals ret :: tables_1
/-- a 'code' word, met by the world's own term for the bytes: nothing is compared byte by byte -/
theorem code_word {y : MethodName} {bytes : ByteArray} {mx : Nat} {rt : Option FieldType} {a : Array Value} {s : State} {m : MethodId} {meth : Method} {c : Code} (h1 : s.methodNamed? y = some m) (h2 : s.vm.method? m = some meth) (h3 : meth.code = some c) (h4 : c.code = bytes)
    (h5 : (c.maxLocals == mx && c.exceptionTable.isEmpty && decide (c.maxStack ≤ mostOperands) && decide (meth.sig.returnType = rt) && !meth.locks && decide (parseMethodDescriptor y.desc = some meth.sig)) = true) : (Jvm.Cond.code y bytes mx rt).before a s = true := by
  simp only [Bool.and_eq_true, beq_iff_eq, Bool.not_eq_true', decide_eq_true_eq] at h5
  obtain ⟨⟨⟨⟨⟨g1, g2⟩, g3⟩, g4⟩, g5⟩, g6⟩ := h5
  simp [Cond.before, Cond.holds, Cond.value, h1, h2, h3, h4, g1, g2, g3, g4, g5, g6]
def isCode : Jvm.Cond → Bool
  | .code _ _ _ _ => true
  | _ => false
theorem all_split {L : List Jvm.Cond} {P : Jvm.Cond → Bool} (h1 : L.all (fun c => isCode c || P c) = true) (h2 : ∀ c ∈ L.filter isCode, P c = true) : L.all P = true := by
  refine List.all_eq_true.mpr fun c hc => ?_
  have h := List.all_eq_true.mp h1 c hc
  rcases Bool.eq_false_or_eq_true (isCode c) with hi | hi
  · exact h2 c (List.mem_filter.mpr ⟨hc, hi⟩)
  · simpa [hi] using h
set_option maxRecDepth 65536 in
theorem w_c0 : (Jvm.Cond.code x code maxLocals ret).before args0 about1 = true := code_word (m := ⟨1, 1⟩) (meth := k1m1) (c := k1c1) (by decide +kernel) rfl rfl rfl (by decide +kernel)
set_option maxRecDepth 65536 in
theorem w_c1 : (Jvm.Cond.code ({ cls := "ShadowRedzoneY", name := "<init>", desc := "(III)V" } : Jvm.MethodName) prog_1_method_1_code (4 : Nat) (Option.none : Option Jvm.ClassFile.FieldType)).before args0 about1 = true := code_word (m := ⟨2, 0⟩) (meth := k2m0) (c := k2c0) (by decide +kernel) rfl rfl rfl (by decide +kernel)
set_option maxRecDepth 65536 in
theorem w_c2 : (Jvm.Cond.code ({ cls := "java/lang/Object", name := "<init>", desc := "()V" } : Jvm.MethodName) object_method_1_code (1 : Nat) (Option.none : Option Jvm.ClassFile.FieldType)).before args0 about1 = true := code_word (m := ⟨0, 0⟩) (meth := k0m0) (c := k0c0) (by decide +kernel) rfl rfl rfl (by decide +kernel)
set_option maxRecDepth 65536 in
theorem w_c3 : (Jvm.Cond.code ({ cls := "ShadowRedzoneY", name := "clamp", desc := "(III)I" } : Jvm.MethodName) prog_1_method_17_code (4 : Nat) (Option.some Jvm.ClassFile.FieldType.int)).before args0 about1 = true := code_word (m := ⟨2, 12⟩) (meth := k2m12) (c := k2c12) (by decide +kernel) rfl rfl rfl (by decide +kernel)
set_option maxRecDepth 65536 in
theorem w_c4 : (Jvm.Cond.code ({ cls := "ShadowRedzoneY", name := "resetArena", desc := "()V" } : Jvm.MethodName) prog_1_method_18_code (2 : Nat) (Option.none : Option Jvm.ClassFile.FieldType)).before args0 about1 = true := code_word (m := ⟨2, 13⟩) (meth := k2m13) (c := k2c13) (by decide +kernel) rfl rfl rfl (by decide +kernel)
set_option maxRecDepth 65536 in
theorem w_c5 : (Jvm.Cond.code ({ cls := "ShadowRedzoneY", name := "resetChunks", desc := "()V" } : Jvm.MethodName) prog_1_method_19_code (2 : Nat) (Option.none : Option Jvm.ClassFile.FieldType)).before args0 about1 = true := code_word (m := ⟨2, 14⟩) (meth := k2m14) (c := k2c14) (by decide +kernel) rfl rfl rfl (by decide +kernel)
set_option maxRecDepth 65536 in
theorem w_c6 : (Jvm.Cond.code ({ cls := "ShadowRedzoneY", name := "resetQuarantine", desc := "()V" } : Jvm.MethodName) prog_1_method_20_code (2 : Nat) (Option.none : Option Jvm.ClassFile.FieldType)).before args0 about1 = true := code_word (m := ⟨2, 15⟩) (meth := k2m15) (c := k2c15) (by decide +kernel) rfl rfl rfl (by decide +kernel)
set_option maxRecDepth 65536 in
theorem w_c7 : (Jvm.Cond.code ({ cls := "ShadowRedzoneY", name := "resetRuns", desc := "()V" } : Jvm.MethodName) prog_1_method_21_code (2 : Nat) (Option.none : Option Jvm.ClassFile.FieldType)).before args0 about1 = true := code_word (m := ⟨2, 16⟩) (meth := k2m16) (c := k2c16) (by decide +kernel) rfl rfl rfl (by decide +kernel)
set_option maxRecDepth 65536 in
theorem w_c8 : (Jvm.Cond.code ({ cls := "ShadowRedzoneY", name := "alloc", desc := "(I)I" } : Jvm.MethodName) prog_1_method_2_code (6 : Nat) (Option.some Jvm.ClassFile.FieldType.int)).before args0 about1 = true := code_word (m := ⟨2, 1⟩) (meth := k2m1) (c := k2c1) (by decide +kernel) rfl rfl rfl (by decide +kernel)
set_option maxRecDepth 65536 in
theorem w_c9 : (Jvm.Cond.code ({ cls := "ShadowRedzoneY", name := "liveCount", desc := "()I" } : Jvm.MethodName) prog_1_method_11_code (1 : Nat) (Option.some Jvm.ClassFile.FieldType.int)).before args0 about1 = true := code_word (m := ⟨2, 10⟩) (meth := k2m10) (c := k2c10) (by decide +kernel) rfl rfl rfl (by decide +kernel)
set_option maxRecDepth 65536 in
theorem w_c10 : (Jvm.Cond.code ({ cls := "ShadowRedzoneY", name := "spanFor", desc := "(I)I" } : Jvm.MethodName) prog_1_method_27_code (2 : Nat) (Option.some Jvm.ClassFile.FieldType.int)).before args0 about1 = true := code_word (m := ⟨2, 22⟩) (meth := k2m22) (c := k2c22) (by decide +kernel) rfl rfl rfl (by decide +kernel)
set_option maxRecDepth 65536 in
theorem w_c11 : (Jvm.Cond.code ({ cls := "ShadowRedzoneY", name := "userGranulesFor", desc := "(I)I" } : Jvm.MethodName) prog_1_method_26_code (2 : Nat) (Option.some Jvm.ClassFile.FieldType.int)).before args0 about1 = true := code_word (m := ⟨2, 21⟩) (meth := k2m21) (c := k2c21) (by decide +kernel) rfl rfl rfl (by decide +kernel)
set_option maxRecDepth 65536 in
theorem w_c12 : (Jvm.Cond.code ({ cls := "ShadowRedzoneY", name := "findRoom", desc := "(I)I" } : Jvm.MethodName) prog_1_method_44_code (4 : Nat) (Option.some Jvm.ClassFile.FieldType.int)).before args0 about1 = true := code_word (m := ⟨2, 37⟩) (meth := k2m37) (c := k2c37) (by decide +kernel) rfl rfl rfl (by decide +kernel)
set_option maxRecDepth 65536 in
theorem w_c13 : (Jvm.Cond.code ({ cls := "ShadowRedzoneY", name := "findFitRun", desc := "(I)I" } : Jvm.MethodName) prog_1_method_45_code (3 : Nat) (Option.some Jvm.ClassFile.FieldType.int)).before args0 about1 = true := code_word (m := ⟨2, 38⟩) (meth := k2m38) (c := k2c38) (by decide +kernel) rfl rfl rfl (by decide +kernel)
set_option maxRecDepth 65536 in
theorem w_c14 : (Jvm.Cond.code ({ cls := "ShadowRedzoneY", name := "findUnusedSlot", desc := "()I" } : Jvm.MethodName) prog_1_method_25_code (2 : Nat) (Option.some Jvm.ClassFile.FieldType.int)).before args0 about1 = true := code_word (m := ⟨2, 20⟩) (meth := k2m20) (c := k2c20) (by decide +kernel) rfl rfl rfl (by decide +kernel)
set_option maxRecDepth 65536 in
theorem w_c15 : (Jvm.Cond.code ({ cls := "ShadowRedzoneY", name := "carveFront", desc := "(II)V" } : Jvm.MethodName) prog_1_method_46_code (3 : Nat) (Option.none : Option Jvm.ClassFile.FieldType)).before args0 about1 = true := code_word (m := ⟨2, 39⟩) (meth := k2m39) (c := k2c39) (by decide +kernel) rfl rfl rfl (by decide +kernel)
set_option maxRecDepth 65536 in
theorem w_c16 : (Jvm.Cond.code ({ cls := "ShadowRedzoneY", name := "createChunk", desc := "(III)I" } : Jvm.MethodName) prog_1_method_38_code (5 : Nat) (Option.some Jvm.ClassFile.FieldType.int)).before args0 about1 = true := code_word (m := ⟨2, 33⟩) (meth := k2m33) (c := k2c33) (by decide +kernel) rfl rfl rfl (by decide +kernel)
set_option maxRecDepth 65536 in
theorem w_c17 : (Jvm.Cond.code ({ cls := "ShadowRedzoneY", name := "setOwner", desc := "(III)V" } : Jvm.MethodName) prog_1_method_34_code (6 : Nat) (Option.none : Option Jvm.ClassFile.FieldType)).before args0 about1 = true := code_word (m := ⟨2, 29⟩) (meth := k2m29) (c := k2c29) (by decide +kernel) rfl rfl rfl (by decide +kernel)
set_option maxRecDepth 65536 in
theorem w_c18 : (Jvm.Cond.code ({ cls := "ShadowRedzoneY", name := "paintLiveChunk", desc := "(I)V" } : Jvm.MethodName) prog_1_method_35_code (9 : Nat) (Option.none : Option Jvm.ClassFile.FieldType)).before args0 about1 = true := code_word (m := ⟨2, 30⟩) (meth := k2m30) (c := k2c30) (by decide +kernel) rfl rfl rfl (by decide +kernel)
set_option maxRecDepth 65536 in
theorem w_c19 : (Jvm.Cond.code ({ cls := "ShadowRedzoneY", name := "userGranule", desc := "(I)I" } : Jvm.MethodName) prog_1_method_29_code (2 : Nat) (Option.some Jvm.ClassFile.FieldType.int)).before args0 about1 = true := code_word (m := ⟨2, 24⟩) (meth := k2m24) (c := k2c24) (by decide +kernel) rfl rfl rfl (by decide +kernel)
set_option maxRecDepth 65536 in
theorem w_c20 : (Jvm.Cond.code ({ cls := "ShadowRedzoneY", name := "validSlot", desc := "(I)Z" } : Jvm.MethodName) prog_1_method_22_code (2 : Nat) (Option.some Jvm.ClassFile.FieldType.boolean)).before args0 about1 = true := code_word (m := ⟨2, 17⟩) (meth := k2m17) (c := k2c17) (by decide +kernel) rfl rfl rfl (by decide +kernel)
set_option maxRecDepth 65536 in
theorem w_c21 : (Jvm.Cond.code ({ cls := "ShadowRedzoneY", name := "rightGranule", desc := "(I)I" } : Jvm.MethodName) prog_1_method_31_code (3 : Nat) (Option.some Jvm.ClassFile.FieldType.int)).before args0 about1 = true := code_word (m := ⟨2, 26⟩) (meth := k2m26) (c := k2c26) (by decide +kernel) rfl rfl rfl (by decide +kernel)
set_option maxRecDepth 65536 in
theorem w_c22 : (Jvm.Cond.code ({ cls := "ShadowRedzoneY", name := "paintRange", desc := "(III)V" } : Jvm.MethodName) prog_1_method_33_code (6 : Nat) (Option.none : Option Jvm.ClassFile.FieldType)).before args0 about1 = true := code_word (m := ⟨2, 28⟩) (meth := k2m28) (c := k2c28) (by decide +kernel) rfl rfl rfl (by decide +kernel)
set_option maxRecDepth 65536 in
theorem w_c23 : (Jvm.Cond.code ({ cls := "ShadowRedzoneY", name := "zeroRequested", desc := "(I)V" } : Jvm.MethodName) prog_1_method_37_code (6 : Nat) (Option.none : Option Jvm.ClassFile.FieldType)).before args0 about1 = true := code_word (m := ⟨2, 32⟩) (meth := k2m32) (c := k2c32) (by decide +kernel) rfl rfl rfl (by decide +kernel)
set_option maxRecDepth 65536 in
theorem w_c24 : (Jvm.Cond.code ({ cls := "ShadowRedzoneY", name := "userAddressOf", desc := "(I)I" } : Jvm.MethodName) prog_1_method_30_code (3 : Nat) (Option.some Jvm.ClassFile.FieldType.int)).before args0 about1 = true := code_word (m := ⟨2, 25⟩) (meth := k2m25) (c := k2c25) (by decide +kernel) rfl rfl rfl (by decide +kernel)
set_option maxRecDepth 65536 in
theorem w_c25 : (Jvm.Cond.code ({ cls := "ShadowRedzoneY", name := "store", desc := "(IIJ)I" } : Jvm.MethodName) prog_1_method_5_code (6 : Nat) (Option.some Jvm.ClassFile.FieldType.int)).before args0 about1 = true := code_word (m := ⟨2, 4⟩) (meth := k2m4) (c := k2c4) (by decide +kernel) rfl rfl rfl (by decide +kernel)
set_option maxRecDepth 65536 in
theorem w_c26 : (Jvm.Cond.code ({ cls := "ShadowRedzoneY", name := "isAccessSize", desc := "(I)Z" } : Jvm.MethodName) prog_1_method_51_code (2 : Nat) (Option.some Jvm.ClassFile.FieldType.boolean)).before args0 about1 = true := code_word (m := ⟨2, 40⟩) (meth := k2m40) (c := k2c40) (by decide +kernel) rfl rfl rfl (by decide +kernel)
set_option maxRecDepth 65536 in
theorem w_c27 : (Jvm.Cond.code ({ cls := "ShadowRedzoneY", name := "checkAccess", desc := "(II)I" } : Jvm.MethodName) prog_1_method_52_code (6 : Nat) (Option.some Jvm.ClassFile.FieldType.int)).before args0 about1 = true := code_word (m := ⟨2, 41⟩) (meth := k2m41) (c := k2c41) (by decide +kernel) rfl rfl rfl (by decide +kernel)
set_option maxRecDepth 65536 in
theorem w_c28 : (Jvm.Cond.code ({ cls := "ShadowRedzoneY", name := "byteKind", desc := "(I)I" } : Jvm.MethodName) prog_1_method_54_code (5 : Nat) (Option.some Jvm.ClassFile.FieldType.int)).before args0 about1 = true := code_word (m := ⟨2, 43⟩) (meth := k2m43) (c := k2c43) (by decide +kernel) rfl rfl rfl (by decide +kernel)
set_option maxRecDepth 65536 in
theorem w_c29 : (Jvm.Cond.code ({ cls := "ShadowRedzoneY", name := "kindForShadow", desc := "(II)I" } : Jvm.MethodName) prog_1_method_55_code (3 : Nat) (Option.some Jvm.ClassFile.FieldType.int)).before args0 about1 = true := code_word (m := ⟨2, 44⟩) (meth := k2m44) (c := k2c44) (by decide +kernel) rfl rfl rfl (by decide +kernel)
set_option maxRecDepth 65536 in
theorem w_c30 : (Jvm.Cond.code ({ cls := "ShadowRedzoneY", name := "writeLittleEndian", desc := "(IIJ)V" } : Jvm.MethodName) prog_1_method_57_code (7 : Nat) (Option.none : Option Jvm.ClassFile.FieldType)).before args0 about1 = true := code_word (m := ⟨2, 46⟩) (meth := k2m46) (c := k2c46) (by decide +kernel) rfl rfl rfl (by decide +kernel)
set_option maxRecDepth 65536 in
theorem w_c31 : (Jvm.Cond.code ({ cls := "ShadowRedzoneY", name := "recordError", desc := "(I)V" } : Jvm.MethodName) prog_1_method_53_code (2 : Nat) (Option.none : Option Jvm.ClassFile.FieldType)).before args0 about1 = true := code_word (m := ⟨2, 42⟩) (meth := k2m42) (c := k2c42) (by decide +kernel) rfl rfl rfl (by decide +kernel)
set_option maxRecDepth 65536 in
theorem w_c32 : (Jvm.Cond.code ({ cls := "ShadowRedzoneY", name := "load", desc := "(II)I" } : Jvm.MethodName) prog_1_method_4_code (4 : Nat) (Option.some Jvm.ClassFile.FieldType.int)).before args0 about1 = true := code_word (m := ⟨2, 3⟩) (meth := k2m3) (c := k2c3) (by decide +kernel) rfl rfl rfl (by decide +kernel)
set_option maxRecDepth 65536 in
theorem w_c33 : (Jvm.Cond.code ({ cls := "ShadowRedzoneY", name := "readLittleEndian", desc := "(II)J" } : Jvm.MethodName) prog_1_method_56_code (9 : Nat) (Option.some Jvm.ClassFile.FieldType.long)).before args0 about1 = true := code_word (m := ⟨2, 45⟩) (meth := k2m45) (c := k2c45) (by decide +kernel) rfl rfl rfl (by decide +kernel)
set_option maxRecDepth 65536 in
theorem w_c34 : (Jvm.Cond.code ({ cls := "ShadowRedzoneY", name := "lastValue", desc := "()J" } : Jvm.MethodName) prog_1_method_6_code (1 : Nat) (Option.some Jvm.ClassFile.FieldType.long)).before args0 about1 = true := code_word (m := ⟨2, 5⟩) (meth := k2m5) (c := k2c5) (by decide +kernel) rfl rfl rfl (by decide +kernel)
set_option maxRecDepth 65536 in
theorem w_c35 : (Jvm.Cond.code ({ cls := "ShadowRedzoneY", name := "lastBadAddress", desc := "()I" } : Jvm.MethodName) prog_1_method_7_code (1 : Nat) (Option.some Jvm.ClassFile.FieldType.int)).before args0 about1 = true := code_word (m := ⟨2, 6⟩) (meth := k2m6) (c := k2c6) (by decide +kernel) rfl rfl rfl (by decide +kernel)
set_option maxRecDepth 65536 in
theorem w_c36 : (Jvm.Cond.code ({ cls := "ShadowRedzoneY", name := "userSize", desc := "(I)I" } : Jvm.MethodName) prog_1_method_10_code (3 : Nat) (Option.some Jvm.ClassFile.FieldType.int)).before args0 about1 = true := code_word (m := ⟨2, 9⟩) (meth := k2m9) (c := k2c9) (by decide +kernel) rfl rfl rfl (by decide +kernel)
set_option maxRecDepth 65536 in
theorem w_c37 : (Jvm.Cond.code ({ cls := "ShadowRedzoneY", name := "slotForUserAddress", desc := "(I)I" } : Jvm.MethodName) prog_1_method_32_code (4 : Nat) (Option.some Jvm.ClassFile.FieldType.int)).before args0 about1 = true := code_word (m := ⟨2, 27⟩) (meth := k2m27) (c := k2c27) (by decide +kernel) rfl rfl rfl (by decide +kernel)
set_option maxRecDepth 65536 in
theorem w_c38 : (Jvm.Cond.code ({ cls := "ShadowRedzoneY", name := "isLive", desc := "(I)Z" } : Jvm.MethodName) prog_1_method_23_code (2 : Nat) (Option.some Jvm.ClassFile.FieldType.boolean)).before args0 about1 = true := code_word (m := ⟨2, 18⟩) (meth := k2m18) (c := k2c18) (by decide +kernel) rfl rfl rfl (by decide +kernel)
set_option maxRecDepth 65536 in
theorem w_c39 : (Jvm.Cond.code ({ cls := "ShadowRedzoneY", name := "free", desc := "(I)I" } : Jvm.MethodName) prog_1_method_3_code (3 : Nat) (Option.some Jvm.ClassFile.FieldType.int)).before args0 about1 = true := code_word (m := ⟨2, 2⟩) (meth := k2m2) (c := k2c2) (by decide +kernel) rfl rfl rfl (by decide +kernel)
set_option maxRecDepth 65536 in
theorem w_c40 : (Jvm.Cond.code ({ cls := "ShadowRedzoneY", name := "isQuarantined", desc := "(I)Z" } : Jvm.MethodName) prog_1_method_24_code (2 : Nat) (Option.some Jvm.ClassFile.FieldType.boolean)).before args0 about1 = true := code_word (m := ⟨2, 19⟩) (meth := k2m19) (c := k2c19) (by decide +kernel) rfl rfl rfl (by decide +kernel)
set_option maxRecDepth 65536 in
theorem w_c41 : (Jvm.Cond.code ({ cls := "ShadowRedzoneY", name := "quarantineChunk", desc := "(I)V" } : Jvm.MethodName) prog_1_method_39_code (2 : Nat) (Option.none : Option Jvm.ClassFile.FieldType)).before args0 about1 = true := code_word (m := ⟨2, 34⟩) (meth := k2m34) (c := k2c34) (by decide +kernel) rfl rfl rfl (by decide +kernel)
set_option maxRecDepth 65536 in
theorem w_c42 : (Jvm.Cond.code ({ cls := "ShadowRedzoneY", name := "paintQuarantined", desc := "(I)V" } : Jvm.MethodName) prog_1_method_36_code (5 : Nat) (Option.none : Option Jvm.ClassFile.FieldType)).before args0 about1 = true := code_word (m := ⟨2, 31⟩) (meth := k2m31) (c := k2c31) (by decide +kernel) rfl rfl rfl (by decide +kernel)
set_option maxRecDepth 65536 in
theorem w_c43 : (Jvm.Cond.code ({ cls := "ShadowRedzoneY", name := "enqueue", desc := "(I)V" } : Jvm.MethodName) prog_1_method_41_code (3 : Nat) (Option.none : Option Jvm.ClassFile.FieldType)).before args0 about1 = true := code_word (m := ⟨2, 35⟩) (meth := k2m35) (c := k2c35) (by decide +kernel) rfl rfl rfl (by decide +kernel)
set_option maxRecDepth 65536 in
theorem w_c44 : (Jvm.Cond.code ({ cls := "ShadowRedzoneY", name := "weightOf", desc := "(I)I" } : Jvm.MethodName) prog_1_method_28_code (3 : Nat) (Option.some Jvm.ClassFile.FieldType.int)).before args0 about1 = true := code_word (m := ⟨2, 23⟩) (meth := k2m23) (c := k2c23) (by decide +kernel) rfl rfl rfl (by decide +kernel)
set_option maxRecDepth 65536 in
theorem w_c45 : (Jvm.Cond.code ({ cls := "ShadowRedzoneY", name := "trimToBudget", desc := "()V" } : Jvm.MethodName) prog_1_method_43_code (2 : Nat) (Option.none : Option Jvm.ClassFile.FieldType)).before args0 about1 = true := code_word (m := ⟨2, 36⟩) (meth := k2m36) (c := k2c36) (by decide +kernel) rfl rfl rfl (by decide +kernel)
set_option maxRecDepth 65536 in
theorem w_c46 : (Jvm.Cond.code ({ cls := "ShadowRedzoneY", name := "quarantineBytes", desc := "()I" } : Jvm.MethodName) prog_1_method_13_code (1 : Nat) (Option.some Jvm.ClassFile.FieldType.int)).before args0 about1 = true := code_word (m := ⟨2, 11⟩) (meth := k2m11) (c := k2c11) (by decide +kernel) rfl rfl rfl (by decide +kernel)
set_option maxRecDepth 65536 in
theorem w_c47 : (Jvm.Cond.code ({ cls := "ShadowRedzoneY", name := "shadow", desc := "(I)I" } : Jvm.MethodName) prog_1_method_9_code (2 : Nat) (Option.some Jvm.ClassFile.FieldType.int)).before args0 about1 = true := code_word (m := ⟨2, 8⟩) (meth := k2m8) (c := k2c8) (by decide +kernel) rfl rfl rfl (by decide +kernel)
set_option maxRecDepth 65536 in
theorem w_c48 : (Jvm.Cond.code ({ cls := "ShadowRedzoneY", name := "errorCount", desc := "()I" } : Jvm.MethodName) prog_1_method_8_code (1 : Nat) (Option.some Jvm.ClassFile.FieldType.int)).before args0 about1 = true := code_word (m := ⟨2, 7⟩) (meth := k2m7) (c := k2c7) (by decide +kernel) rfl rfl rfl (by decide +kernel)
def codes1 : List Jvm.Cond := [Jvm.Cond.code x code maxLocals ret, Jvm.Cond.code ({ cls := "ShadowRedzoneY", name := "<init>", desc := "(III)V" } : Jvm.MethodName) prog_1_method_1_code (4 : Nat) (Option.none : Option Jvm.ClassFile.FieldType), Jvm.Cond.code ({ cls := "java/lang/Object", name := "<init>", desc := "()V" } : Jvm.MethodName) object_method_1_code (1 : Nat) (Option.none : Option Jvm.ClassFile.FieldType), Jvm.Cond.code ({ cls := "ShadowRedzoneY", name := "clamp", desc := "(III)I" } : Jvm.MethodName) prog_1_method_17_code (4 : Nat) (Option.some Jvm.ClassFile.FieldType.int), Jvm.Cond.code ({ cls := "ShadowRedzoneY", name := "resetArena", desc := "()V" } : Jvm.MethodName) prog_1_method_18_code (2 : Nat) (Option.none : Option Jvm.ClassFile.FieldType), Jvm.Cond.code ({ cls := "ShadowRedzoneY", name := "resetChunks", desc := "()V" } : Jvm.MethodName) prog_1_method_19_code (2 : Nat) (Option.none : Option Jvm.ClassFile.FieldType), Jvm.Cond.code ({ cls := "ShadowRedzoneY", name := "resetQuarantine", desc := "()V" } : Jvm.MethodName) prog_1_method_20_code (2 : Nat) (Option.none : Option Jvm.ClassFile.FieldType), Jvm.Cond.code ({ cls := "ShadowRedzoneY", name := "resetRuns", desc := "()V" } : Jvm.MethodName) prog_1_method_21_code (2 : Nat) (Option.none : Option Jvm.ClassFile.FieldType), Jvm.Cond.code ({ cls := "ShadowRedzoneY", name := "alloc", desc := "(I)I" } : Jvm.MethodName) prog_1_method_2_code (6 : Nat) (Option.some Jvm.ClassFile.FieldType.int), Jvm.Cond.code ({ cls := "ShadowRedzoneY", name := "liveCount", desc := "()I" } : Jvm.MethodName) prog_1_method_11_code (1 : Nat) (Option.some Jvm.ClassFile.FieldType.int), Jvm.Cond.code ({ cls := "ShadowRedzoneY", name := "spanFor", desc := "(I)I" } : Jvm.MethodName) prog_1_method_27_code (2 : Nat) (Option.some Jvm.ClassFile.FieldType.int), Jvm.Cond.code ({ cls := "ShadowRedzoneY", name := "userGranulesFor", desc := "(I)I" } : Jvm.MethodName) prog_1_method_26_code (2 : Nat) (Option.some Jvm.ClassFile.FieldType.int), Jvm.Cond.code ({ cls := "ShadowRedzoneY", name := "findRoom", desc := "(I)I" } : Jvm.MethodName) prog_1_method_44_code (4 : Nat) (Option.some Jvm.ClassFile.FieldType.int), Jvm.Cond.code ({ cls := "ShadowRedzoneY", name := "findFitRun", desc := "(I)I" } : Jvm.MethodName) prog_1_method_45_code (3 : Nat) (Option.some Jvm.ClassFile.FieldType.int), Jvm.Cond.code ({ cls := "ShadowRedzoneY", name := "findUnusedSlot", desc := "()I" } : Jvm.MethodName) prog_1_method_25_code (2 : Nat) (Option.some Jvm.ClassFile.FieldType.int), Jvm.Cond.code ({ cls := "ShadowRedzoneY", name := "carveFront", desc := "(II)V" } : Jvm.MethodName) prog_1_method_46_code (3 : Nat) (Option.none : Option Jvm.ClassFile.FieldType), Jvm.Cond.code ({ cls := "ShadowRedzoneY", name := "createChunk", desc := "(III)I" } : Jvm.MethodName) prog_1_method_38_code (5 : Nat) (Option.some Jvm.ClassFile.FieldType.int), Jvm.Cond.code ({ cls := "ShadowRedzoneY", name := "setOwner", desc := "(III)V" } : Jvm.MethodName) prog_1_method_34_code (6 : Nat) (Option.none : Option Jvm.ClassFile.FieldType), Jvm.Cond.code ({ cls := "ShadowRedzoneY", name := "paintLiveChunk", desc := "(I)V" } : Jvm.MethodName) prog_1_method_35_code (9 : Nat) (Option.none : Option Jvm.ClassFile.FieldType), Jvm.Cond.code ({ cls := "ShadowRedzoneY", name := "userGranule", desc := "(I)I" } : Jvm.MethodName) prog_1_method_29_code (2 : Nat) (Option.some Jvm.ClassFile.FieldType.int), Jvm.Cond.code ({ cls := "ShadowRedzoneY", name := "validSlot", desc := "(I)Z" } : Jvm.MethodName) prog_1_method_22_code (2 : Nat) (Option.some Jvm.ClassFile.FieldType.boolean), Jvm.Cond.code ({ cls := "ShadowRedzoneY", name := "rightGranule", desc := "(I)I" } : Jvm.MethodName) prog_1_method_31_code (3 : Nat) (Option.some Jvm.ClassFile.FieldType.int), Jvm.Cond.code ({ cls := "ShadowRedzoneY", name := "paintRange", desc := "(III)V" } : Jvm.MethodName) prog_1_method_33_code (6 : Nat) (Option.none : Option Jvm.ClassFile.FieldType), Jvm.Cond.code ({ cls := "ShadowRedzoneY", name := "zeroRequested", desc := "(I)V" } : Jvm.MethodName) prog_1_method_37_code (6 : Nat) (Option.none : Option Jvm.ClassFile.FieldType), Jvm.Cond.code ({ cls := "ShadowRedzoneY", name := "userAddressOf", desc := "(I)I" } : Jvm.MethodName) prog_1_method_30_code (3 : Nat) (Option.some Jvm.ClassFile.FieldType.int), Jvm.Cond.code ({ cls := "ShadowRedzoneY", name := "store", desc := "(IIJ)I" } : Jvm.MethodName) prog_1_method_5_code (6 : Nat) (Option.some Jvm.ClassFile.FieldType.int), Jvm.Cond.code ({ cls := "ShadowRedzoneY", name := "isAccessSize", desc := "(I)Z" } : Jvm.MethodName) prog_1_method_51_code (2 : Nat) (Option.some Jvm.ClassFile.FieldType.boolean), Jvm.Cond.code ({ cls := "ShadowRedzoneY", name := "checkAccess", desc := "(II)I" } : Jvm.MethodName) prog_1_method_52_code (6 : Nat) (Option.some Jvm.ClassFile.FieldType.int), Jvm.Cond.code ({ cls := "ShadowRedzoneY", name := "byteKind", desc := "(I)I" } : Jvm.MethodName) prog_1_method_54_code (5 : Nat) (Option.some Jvm.ClassFile.FieldType.int), Jvm.Cond.code ({ cls := "ShadowRedzoneY", name := "kindForShadow", desc := "(II)I" } : Jvm.MethodName) prog_1_method_55_code (3 : Nat) (Option.some Jvm.ClassFile.FieldType.int), Jvm.Cond.code ({ cls := "ShadowRedzoneY", name := "writeLittleEndian", desc := "(IIJ)V" } : Jvm.MethodName) prog_1_method_57_code (7 : Nat) (Option.none : Option Jvm.ClassFile.FieldType), Jvm.Cond.code ({ cls := "ShadowRedzoneY", name := "recordError", desc := "(I)V" } : Jvm.MethodName) prog_1_method_53_code (2 : Nat) (Option.none : Option Jvm.ClassFile.FieldType), Jvm.Cond.code ({ cls := "ShadowRedzoneY", name := "load", desc := "(II)I" } : Jvm.MethodName) prog_1_method_4_code (4 : Nat) (Option.some Jvm.ClassFile.FieldType.int), Jvm.Cond.code ({ cls := "ShadowRedzoneY", name := "readLittleEndian", desc := "(II)J" } : Jvm.MethodName) prog_1_method_56_code (9 : Nat) (Option.some Jvm.ClassFile.FieldType.long), Jvm.Cond.code ({ cls := "ShadowRedzoneY", name := "lastValue", desc := "()J" } : Jvm.MethodName) prog_1_method_6_code (1 : Nat) (Option.some Jvm.ClassFile.FieldType.long), Jvm.Cond.code ({ cls := "ShadowRedzoneY", name := "lastBadAddress", desc := "()I" } : Jvm.MethodName) prog_1_method_7_code (1 : Nat) (Option.some Jvm.ClassFile.FieldType.int), Jvm.Cond.code ({ cls := "ShadowRedzoneY", name := "userSize", desc := "(I)I" } : Jvm.MethodName) prog_1_method_10_code (3 : Nat) (Option.some Jvm.ClassFile.FieldType.int), Jvm.Cond.code ({ cls := "ShadowRedzoneY", name := "slotForUserAddress", desc := "(I)I" } : Jvm.MethodName) prog_1_method_32_code (4 : Nat) (Option.some Jvm.ClassFile.FieldType.int), Jvm.Cond.code ({ cls := "ShadowRedzoneY", name := "isLive", desc := "(I)Z" } : Jvm.MethodName) prog_1_method_23_code (2 : Nat) (Option.some Jvm.ClassFile.FieldType.boolean), Jvm.Cond.code ({ cls := "ShadowRedzoneY", name := "free", desc := "(I)I" } : Jvm.MethodName) prog_1_method_3_code (3 : Nat) (Option.some Jvm.ClassFile.FieldType.int), Jvm.Cond.code ({ cls := "ShadowRedzoneY", name := "isQuarantined", desc := "(I)Z" } : Jvm.MethodName) prog_1_method_24_code (2 : Nat) (Option.some Jvm.ClassFile.FieldType.boolean), Jvm.Cond.code ({ cls := "ShadowRedzoneY", name := "quarantineChunk", desc := "(I)V" } : Jvm.MethodName) prog_1_method_39_code (2 : Nat) (Option.none : Option Jvm.ClassFile.FieldType), Jvm.Cond.code ({ cls := "ShadowRedzoneY", name := "paintQuarantined", desc := "(I)V" } : Jvm.MethodName) prog_1_method_36_code (5 : Nat) (Option.none : Option Jvm.ClassFile.FieldType), Jvm.Cond.code ({ cls := "ShadowRedzoneY", name := "enqueue", desc := "(I)V" } : Jvm.MethodName) prog_1_method_41_code (3 : Nat) (Option.none : Option Jvm.ClassFile.FieldType), Jvm.Cond.code ({ cls := "ShadowRedzoneY", name := "weightOf", desc := "(I)I" } : Jvm.MethodName) prog_1_method_28_code (3 : Nat) (Option.some Jvm.ClassFile.FieldType.int), Jvm.Cond.code ({ cls := "ShadowRedzoneY", name := "trimToBudget", desc := "()V" } : Jvm.MethodName) prog_1_method_43_code (2 : Nat) (Option.none : Option Jvm.ClassFile.FieldType), Jvm.Cond.code ({ cls := "ShadowRedzoneY", name := "quarantineBytes", desc := "()I" } : Jvm.MethodName) prog_1_method_13_code (1 : Nat) (Option.some Jvm.ClassFile.FieldType.int), Jvm.Cond.code ({ cls := "ShadowRedzoneY", name := "shadow", desc := "(I)I" } : Jvm.MethodName) prog_1_method_9_code (2 : Nat) (Option.some Jvm.ClassFile.FieldType.int), Jvm.Cond.code ({ cls := "ShadowRedzoneY", name := "errorCount", desc := "()I" } : Jvm.MethodName) prog_1_method_8_code (1 : Nat) (Option.some Jvm.ClassFile.FieldType.int)]
set_option maxRecDepth 65536 in
theorem codes_eq : words1.filter isCode = codes1 := rfl
theorem w_codes : ∀ c ∈ words1.filter isCode, c.before args0 about1 = true := by
  rw [codes_eq]
  intro c hc
  simp only [codes1, List.mem_cons, List.not_mem_nil, or_false] at hc
  rcases hc with rfl | rfl | rfl | rfl | rfl | rfl | rfl | rfl | rfl | rfl | rfl | rfl | rfl | rfl | rfl | rfl | rfl | rfl | rfl | rfl | rfl | rfl | rfl | rfl | rfl | rfl | rfl | rfl | rfl | rfl | rfl | rfl | rfl | rfl | rfl | rfl | rfl | rfl | rfl | rfl | rfl | rfl | rfl | rfl | rfl | rfl | rfl | rfl | rfl
  · exact w_c0
  · exact w_c1
  · exact w_c2
  · exact w_c3
  · exact w_c4
  · exact w_c5
  · exact w_c6
  · exact w_c7
  · exact w_c8
  · exact w_c9
  · exact w_c10
  · exact w_c11
  · exact w_c12
  · exact w_c13
  · exact w_c14
  · exact w_c15
  · exact w_c16
  · exact w_c17
  · exact w_c18
  · exact w_c19
  · exact w_c20
  · exact w_c21
  · exact w_c22
  · exact w_c23
  · exact w_c24
  · exact w_c25
  · exact w_c26
  · exact w_c27
  · exact w_c28
  · exact w_c29
  · exact w_c30
  · exact w_c31
  · exact w_c32
  · exact w_c33
  · exact w_c34
  · exact w_c35
  · exact w_c36
  · exact w_c37
  · exact w_c38
  · exact w_c39
  · exact w_c40
  · exact w_c41
  · exact w_c42
  · exact w_c43
  · exact w_c44
  · exact w_c45
  · exact w_c46
  · exact w_c47
  · exact w_c48
set_option maxRecDepth 65536 in
theorem w_t1 : (words1.take 24).all (fun c => isCode c || c.before args0 about1) = true := by decide +kernel
set_option maxRecDepth 65536 in
theorem w_t2 : ((words1.drop 24).take 24).all (fun c => isCode c || c.before args0 about1) = true := by decide +kernel
set_option maxRecDepth 65536 in
theorem w_t3 : (((words1.drop 24).drop 24).take 24).all (fun c => isCode c || c.before args0 about1) = true := by decide +kernel
set_option maxRecDepth 65536 in
theorem w_t4 : ((((words1.drop 24).drop 24).drop 24).take 24).all (fun c => isCode c || c.before args0 about1) = true := by decide +kernel
set_option maxRecDepth 65536 in
theorem w_t5 : (((((words1.drop 24).drop 24).drop 24).drop 24).take 24).all (fun c => isCode c || c.before args0 about1) = true := by decide +kernel
set_option maxRecDepth 65536 in
theorem w_t6 : ((((((words1.drop 24).drop 24).drop 24).drop 24).drop 24).take 24).all (fun c => isCode c || c.before args0 about1) = true := by decide +kernel
set_option maxRecDepth 65536 in
theorem w_t7 : (((((((words1.drop 24).drop 24).drop 24).drop 24).drop 24).drop 24).take 24).all (fun c => isCode c || c.before args0 about1) = true := by decide +kernel
set_option maxRecDepth 65536 in
theorem w_t8 : ((((((((words1.drop 24).drop 24).drop 24).drop 24).drop 24).drop 24).drop 24).take 24).all (fun c => isCode c || c.before args0 about1) = true := by decide +kernel
set_option maxRecDepth 65536 in
theorem w_t9 : (((((((((words1.drop 24).drop 24).drop 24).drop 24).drop 24).drop 24).drop 24).drop 24).take 24).all (fun c => isCode c || c.before args0 about1) = true := by decide +kernel
set_option maxRecDepth 65536 in
theorem w_t10 : ((((((((((words1.drop 24).drop 24).drop 24).drop 24).drop 24).drop 24).drop 24).drop 24).drop 24).take 24).all (fun c => isCode c || c.before args0 about1) = true := by decide +kernel
set_option maxRecDepth 65536 in
theorem w_t11 : ((((((((((words1.drop 24).drop 24).drop 24).drop 24).drop 24).drop 24).drop 24).drop 24).drop 24).drop 24).all (fun c => isCode c || c.before args0 about1) = true := by decide +kernel
theorem w_tables : (allAtoms (Jvm.Cond.code x code maxLocals ret :: tables_1)).before args0 about1 = true := by
  rw [allAtoms_all]
  show words1.all (fun c => c.before args0 about1) = true
  refine all_split ?_ w_codes
  rw [← List.take_append_drop 24 words1, List.all_append, w_t1, ← List.take_append_drop 24 (words1.drop 24), List.all_append, w_t2, ← List.take_append_drop 24 ((words1.drop 24).drop 24), List.all_append, w_t3, ← List.take_append_drop 24 (((words1.drop 24).drop 24).drop 24), List.all_append, w_t4, ← List.take_append_drop 24 ((((words1.drop 24).drop 24).drop 24).drop 24), List.all_append, w_t5, ← List.take_append_drop 24 (((((words1.drop 24).drop 24).drop 24).drop 24).drop 24), List.all_append, w_t6, ← List.take_append_drop 24 ((((((words1.drop 24).drop 24).drop 24).drop 24).drop 24).drop 24), List.all_append, w_t7, ← List.take_append_drop 24 (((((((words1.drop 24).drop 24).drop 24).drop 24).drop 24).drop 24).drop 24), List.all_append, w_t8, ← List.take_append_drop 24 ((((((((words1.drop 24).drop 24).drop 24).drop 24).drop 24).drop 24).drop 24).drop 24), List.all_append, w_t9, ← List.take_append_drop 24 (((((((((words1.drop 24).drop 24).drop 24).drop 24).drop 24).drop 24).drop 24).drop 24).drop 24), List.all_append, w_t10, w_t11]
  rfl
set_option maxRecDepth 65536 in
theorem w_case : (Jvm.Cond.and given_1 narrow_1).before args0 about1 = true := by decide +kernel
theorem w_applies : (headSpec (Jvm.Cond.code x code maxLocals ret :: tables_1) room_1).applies x e0.platform about1 = true :=
  (Spec.applies_iff w_frames).mpr ⟨w_running, w_runnable, w_alone, w_named, w_hears, w_ripe, w_room, w_tables⟩
theorem atStart : AtStart classFile x code maxLocals ret World_1 tables_1 room_1 Calls_1 rest_1 Pre_1 launch0 p0 e0 about1 theMethod args0 below0 :=
  ⟨lists_1, trivial, launch0.admits_env _ _ _, launch0.least_env, fairChoices_fair.cas, fairChoices_fair.clock, w_frames, w_args, w_heap, w_applies, trivial, trivial, w_case⟩
end start1
theorem witness_1 : WitnessClaimed_1 := ⟨start1.p0, start1.e0, start1.about1, start1.theMethod, start1.args0, start1.below0, start1.atStart⟩
end Jvm.Pilot.@@N@@
