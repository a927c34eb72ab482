import JvmDerived
import JvmDerived.Pilot.@@N@@Statement
import JvmDerived.Pilot.@@N@@Code
set_option linter.unusedVariables false
set_option linter.unusedSimpArgs false
namespace Jvm.AM
open Sem ClassFile Op Lib Jvm.Stand Jvm.Free Jvm.LawKit Jvm.RoadKit
/-! ## 1. The abstract objects: one object of the class, its scalars and its arrays by number -/
abbrev S : Type := (Nat → Int32) × (Nat → Int64) × (Nat → List Int32) × (Nat → List Int64)
def aupd {A : Type} (g : Nat → A) (f : Nat) (v : A) : Nat → A := fun x => if x = f then v else g x
def gI (s : S) (f : Nat) : Int32 := s.1 f
def gL (s : S) (f : Nat) : Int64 := s.2.1 f
def gA (s : S) (f : Nat) : List Int32 := s.2.2.1 f
def gB (s : S) (f : Nat) : List Int64 := s.2.2.2 f
def sI (s : S) (f : Nat) (v : Int32) : S := (aupd s.1 f v, s.2)
def sL (s : S) (f : Nat) (v : Int64) : S := (s.1, aupd s.2.1 f v, s.2.2)
def sA (s : S) (f : Nat) (v : List Int32) : S := (s.1, s.2.1, aupd s.2.2.1 f v, s.2.2.2)
def sB (s : S) (f : Nat) (v : List Int64) : S := (s.1, s.2.1, s.2.2.1, aupd s.2.2.2 f v)
def s0 : S := (fun _ => 0, fun _ => 0, fun _ => [], fun _ => [])
theorem gI_s0 (f : Nat) : gI s0 f = 0 := by simp only [gI, s0]
theorem gL_s0 (f : Nat) : gL s0 f = 0 := by simp only [gL, s0]
theorem gA_s0 (f : Nat) : gA s0 f = [] := by simp only [gA, s0]
theorem gB_s0 (f : Nat) : gB s0 f = [] := by simp only [gB, s0]
theorem gI_sI (s : S) (f g : Nat) (v : Int32) : gI (sI s f v) g = if g = f then v else gI s g := by simp only [gI, gL, gA, gB, sI, sL, sA, sB, aupd]
theorem gI_sL (s : S) (f g : Nat) (v : Int64) : gI (sL s f v) g = gI s g := by simp only [gI, gL, gA, gB, sI, sL, sA, sB, aupd]
theorem gI_sA (s : S) (f g : Nat) (v : List Int32) : gI (sA s f v) g = gI s g := by simp only [gI, gL, gA, gB, sI, sL, sA, sB, aupd]
theorem gI_sB (s : S) (f g : Nat) (v : List Int64) : gI (sB s f v) g = gI s g := by simp only [gI, gL, gA, gB, sI, sL, sA, sB, aupd]
theorem gL_sI (s : S) (f g : Nat) (v : Int32) : gL (sI s f v) g = gL s g := by simp only [gI, gL, gA, gB, sI, sL, sA, sB, aupd]
theorem gL_sL (s : S) (f g : Nat) (v : Int64) : gL (sL s f v) g = if g = f then v else gL s g := by simp only [gI, gL, gA, gB, sI, sL, sA, sB, aupd]
theorem gL_sA (s : S) (f g : Nat) (v : List Int32) : gL (sA s f v) g = gL s g := by simp only [gI, gL, gA, gB, sI, sL, sA, sB, aupd]
theorem gL_sB (s : S) (f g : Nat) (v : List Int64) : gL (sB s f v) g = gL s g := by simp only [gI, gL, gA, gB, sI, sL, sA, sB, aupd]
theorem gA_sI (s : S) (f g : Nat) (v : Int32) : gA (sI s f v) g = gA s g := by simp only [gI, gL, gA, gB, sI, sL, sA, sB, aupd]
theorem gA_sL (s : S) (f g : Nat) (v : Int64) : gA (sL s f v) g = gA s g := by simp only [gI, gL, gA, gB, sI, sL, sA, sB, aupd]
theorem gA_sA (s : S) (f g : Nat) (v : List Int32) : gA (sA s f v) g = if g = f then v else gA s g := by simp only [gI, gL, gA, gB, sI, sL, sA, sB, aupd]
theorem gA_sB (s : S) (f g : Nat) (v : List Int64) : gA (sB s f v) g = gA s g := by simp only [gI, gL, gA, gB, sI, sL, sA, sB, aupd]
theorem gB_sI (s : S) (f g : Nat) (v : Int32) : gB (sI s f v) g = gB s g := by simp only [gI, gL, gA, gB, sI, sL, sA, sB, aupd]
theorem gB_sL (s : S) (f g : Nat) (v : Int64) : gB (sL s f v) g = gB s g := by simp only [gI, gL, gA, gB, sI, sL, sA, sB, aupd]
theorem gB_sA (s : S) (f g : Nat) (v : List Int32) : gB (sA s f v) g = gB s g := by simp only [gI, gL, gA, gB, sI, sL, sA, sB, aupd]
theorem gB_sB (s : S) (f g : Nat) (v : List Int64) : gB (sB s f v) g = if g = f then v else gB s g := by simp only [gI, gL, gA, gB, sI, sL, sA, sB, aupd]
def rep {A : Type} (n : Nat) (x : A) : List A := List.replicate n x
theorem rep_length {A : Type} (n : Nat) (x : A) : (rep n x).length = n := by simp only [rep, List.length_replicate]
theorem rep_get {A : Type} (n : Nat) (x : A) (k : Nat) : (rep n x)[k]? = if k < n then some x else none := by simp only [rep, List.getElem?_replicate]
theorem rep_set {A : Type} (n : Nat) (x : A) (k : Nat) : (rep n x).set k x = rep n x := by simp only [rep, List.set_replicate_self]
/-- reading and writing a component -/
def ix {A : Type} (l : List A) (j : Int32) : Option A := if j < 0 then none else l[j.toNatClampNeg]?
def st {A : Type} (l : List A) (j : Int32) (x : A) : Option (List A) := if j < 0 then none else if j.toNatClampNeg < l.length then some (l.set j.toNatClampNeg x) else none
/-- the world of a run: the script array, if there is one; the objects made so far, each with the number of arrays that it has been given -/
abbrev W : Type := Option (List Int32) × List (Nat × S)
/-- the class: name, slots, scalar fields (name, descriptor, type), array fields in the order of their making (name, descriptor, component type, most slots) -/
abbrev CI : Type := String × Nat × List (String × String × FieldType) × List (String × String × FieldType × Nat)
def cN (c : CI) : String := c.1
def cF (c : CI) : Nat := c.2.1
def cS (c : CI) : List (String × String × FieldType) := c.2.2.1
def cA (c : CI) : List (String × String × FieldType × Nat) := c.2.2.2
def cK (c : CI) : Nat := (cA c).length
/-- the program: the sheet's words, the class -/
abbrev PI : Type := List Jvm.Cond × CI
/-- a method: name, bytes, variables, return type, room, most objects, whether it makes cells, cells and slots at its start -/
abbrev Meth : Type := MethodName × ByteArray × Nat × Option FieldType × Room × Nat × Bool × Nat × Nat
def mY (M : Meth) : MethodName := M.1
def mB (M : Meth) : ByteArray := M.2.1
def mL (M : Meth) : Nat := M.2.2.1
def mT (M : Meth) : Option FieldType := M.2.2.2.1
def mR (M : Meth) : Room := M.2.2.2.2.1
def mN (M : Meth) : Nat := M.2.2.2.2.2.1
def mTop (M : Meth) : Bool := M.2.2.2.2.2.2.1
def mUC (M : Meth) : Nat := M.2.2.2.2.2.2.2.1
def mUS (M : Meth) : Nat := M.2.2.2.2.2.2.2.2
/-! ## 2. Abstract references: 0 the script; j + 1 the cell at b + j -/
def con (α b : Nat) : Value → Value
  | .ref 0 => .ref α
  | .ref (j + 1) => .ref (b + j)
  | v => v
def cs (α b : Nat) : Slot → Slot
  | .val v => .val (con α b v)
  | .unset => .unset
  | .second => .second
def cL (α b : Nat) (L : List Slot) : Array Slot := (L.map (cs α b)).toArray
def cV (α b : Nat) (l : List Value) : List Value := l.map (con α b)
theorem con_cat (α b : Nat) (v : Value) : (con α b v).category = v.category := by
  cases v <;> try rfl
  rename_i a; cases a <;> rfl
theorem con_ref (α b : Nat) (v : Value) : (con α b v).isRef = v.isRef := by
  cases v <;> try rfl
  rename_i a; cases a <;> rfl
theorem cL_get {α b : Nat} {L : List Slot} {k : Nat} {x : Slot} (h : L[k]? = some x) : (cL α b L)[k]? = some (cs α b x) := by
  simp [cL, List.getElem?_toArray, List.getElem?_map, h]
theorem cL_size (α b : Nat) (L : List Slot) : (cL α b L).size = L.length := by simp [cL]
theorem cV_sum (α b : Nat) (l : List Value) : ((cV α b l).map fun v => v.category).sum = (l.map fun v => v.category).sum := by
  simp [cV, List.map_map, Function.comp_def, con_cat]
theorem setAt_map {α b : Nat} {l l' : Array Slot} {i : Nat} {x : Slot} (h : setAt l i x = some l') : setAt (l.map (cs α b)) i (cs α b x) = some (l'.map (cs α b)) := by
  unfold setAt at h ⊢
  split at h
  · rename_i q
    cases h
    rw [if_pos (by simpa using q)]
    simp [Array.map_setIfInBounds]
  · cases h
theorem storeSelf_map {α b : Nat} {l l' : Array Slot} {i : Nat} {v : Value} (h : storeSelf l i v = some l') : storeSelf (l.map (cs α b)) i (con α b v) = some (l'.map (cs α b)) := by
  simp only [storeSelf, Option.bind_eq_bind, Option.bind_eq_some_iff] at h ⊢
  obtain ⟨l1, h1, h2⟩ := h
  refine ⟨l1.map (cs α b), setAt_map (x := .val v) h1, ?_⟩
  rw [con_cat]
  split at h2
  · rename_i q
    rw [if_pos q]
    obtain ⟨x, h3, h4⟩ := Option.bind_eq_some_iff.mp h2
    refine Option.bind_eq_some_iff.mpr ⟨cs α b x, by simp [h3], ?_⟩
    cases x with
    | unset => exact setAt_map (x := .second) h4
    | second => exact setAt_map (x := .second) h4
    | val old =>
      simp only [cs, con_cat] at h4 ⊢
      split at h4
      · rename_i q2
        rw [if_pos q2]
        obtain ⟨y, h5, h6⟩ := Option.bind_eq_some_iff.mp h4
        exact Option.bind_eq_some_iff.mpr ⟨_, setAt_map (x := .unset) h5, setAt_map (x := .second) h6⟩
      · rename_i q2
        rw [if_neg q2]
        exact setAt_map (x := .second) h4
  · rename_i q
    rw [if_neg q]
    cases h2; rfl
theorem store_map {α b : Nat} {l l' : Array Slot} {i : Nat} {v : Value} (h : storeLocals l i v = some l') : storeLocals (l.map (cs α b)) i (con α b v) = some (l'.map (cs α b)) := by
  simp only [storeLocals, Option.bind_eq_bind, Option.bind_eq_some_iff] at h ⊢
  obtain ⟨x, h1, h2⟩ := h
  refine ⟨cs α b x, by simp [h1], ?_⟩
  cases x with
  | unset => exact storeSelf_map h2
  | second =>
    obtain ⟨y, h3, h4⟩ := Option.bind_eq_some_iff.mp h2
    exact Option.bind_eq_some_iff.mpr ⟨_, setAt_map (x := .unset) h3, storeSelf_map h4⟩
  | val old =>
    simp only [cs, con_cat] at h2 ⊢
    split at h2
    · rename_i q
      rw [if_pos q]
      obtain ⟨y, h3, h4⟩ := Option.bind_eq_some_iff.mp h2
      exact Option.bind_eq_some_iff.mpr ⟨_, setAt_map (x := .unset) h3, storeSelf_map h4⟩
    · rename_i q
      rw [if_neg q]
      exact storeSelf_map h2
theorem storeC {α b : Nat} {L L' : List Slot} {i : Nat} {v : Value} (h : storeLocals L.toArray i v = some L'.toArray) : storeLocals (cL α b L) i (con α b v) = some (cL α b L') := by
  have := store_map (α := α) (b := b) h
  simpa [cL] using this
theorem setAt_size {l l' : Array Slot} {i : Nat} {x : Slot} (h : setAt l i x = some l') : l'.size = l.size := by
  unfold setAt at h; split at h <;> cases h; simp
theorem storeSelf_size {l l' : Array Slot} {i : Nat} {v : Value} (h : storeSelf l i v = some l') : l'.size = l.size := by
  simp only [storeSelf, Option.bind_eq_bind, Option.bind_eq_some_iff] at h
  obtain ⟨l1, h1, h2⟩ := h
  have e1 := setAt_size h1
  split at h2
  · obtain ⟨x, h3, h4⟩ := Option.bind_eq_some_iff.mp h2
    cases x with
    | unset => exact (setAt_size h4).trans e1
    | second => exact (setAt_size h4).trans e1
    | val old =>
      dsimp only at h4
      split at h4
      · obtain ⟨y, h5, h6⟩ := Option.bind_eq_some_iff.mp h4
        exact (setAt_size h6).trans ((setAt_size h5).trans e1)
      · exact (setAt_size h4).trans e1
  · cases h2; exact e1
theorem store_size {l l' : Array Slot} {i : Nat} {v : Value} (h : storeLocals l i v = some l') : l'.size = l.size := by
  simp only [storeLocals, Option.bind_eq_bind, Option.bind_eq_some_iff] at h
  obtain ⟨x, h1, h2⟩ := h
  cases x with
  | unset => exact storeSelf_size h2
  | second =>
    obtain ⟨y, h3, h4⟩ := Option.bind_eq_some_iff.mp h2
    exact (storeSelf_size h4).trans (setAt_size h3)
  | val old =>
    dsimp only at h2
    split at h2
    · obtain ⟨y, h3, h4⟩ := Option.bind_eq_some_iff.mp h2
      exact (storeSelf_size h4).trans (setAt_size h3)
    · exact storeSelf_size h2
/-- a variable that may be written over by a value of one word -/
def k1 (o : Slot) : Prop := o = .unset ∨ ∃ w, o = .val w ∧ w.category = 1
def k2 (o o2 : Slot) : Prop := (o = .unset ∧ o2 = .unset) ∨ ∃ u, o = .val (.long u) ∧ o2 = .second
theorem setAt_l {L : List Slot} {k : Nat} {x : Slot} (h : k < L.length) : setAt L.toArray k x = some (L.set k x).toArray := by simp [setAt, h]
theorem get_l {L : List Slot} {k : Nat} {o : Slot} (h : L[k]? = some o) : L.toArray[k]? = some o := by rw [List.getElem?_toArray]; exact h
theorem store_u {L : List Slot} {k : Nat} {v : Value} (h : L[k]? = some .unset) : storeLocals L.toArray k v = storeSelf L.toArray k v := by
  simp only [storeLocals, Option.bind_eq_bind, get_l h, Option.bind_some]
theorem store_1 {L : List Slot} {k : Nat} {v w : Value} (h : L[k]? = some (.val w)) (hw : w.category = 1) : storeLocals L.toArray k v = storeSelf L.toArray k v := by
  simp only [storeLocals, Option.bind_eq_bind, get_l h, Option.bind_some]
  rw [if_neg (by rw [hw]; decide)]
theorem store_k {L : List Slot} {k : Nat} {v : Value} {o : Slot} (h : L[k]? = some o) (ho : k1 o) : storeLocals L.toArray k v = storeSelf L.toArray k v := by
  rcases ho with rfl | ⟨w, rfl, hw⟩
  · exact store_u h
  · exact store_1 h hw
theorem store_2 {L : List Slot} {k : Nat} {v w : Value} (h : L[k]? = some (.val w)) (hw : w.category = 2) (l2 : k + 1 < L.length) : storeLocals L.toArray k v = storeSelf (L.set (k + 1) .unset).toArray k v := by
  simp only [storeLocals, Option.bind_eq_bind, get_l h, Option.bind_some]
  rw [if_pos hw, setAt_l l2, Option.bind_some]
theorem self_1 {L : List Slot} {k : Nat} {v : Value} (hv : v.category = 1) (l : k < L.length) : storeSelf L.toArray k v = some (L.set k (.val v)).toArray := by
  simp only [storeSelf, Option.bind_eq_bind, setAt_l l, Option.bind_some]
  rw [if_neg (by rw [hv]; decide)]
theorem self_2 {L : List Slot} {k : Nat} {v : Value} {o : Slot} (hv : v.category = 2) (h : L[k + 1]? = some o) (ho : k1 o ∨ o = .second) (l : k < L.length) : storeSelf L.toArray k v = some ((L.set k (.val v)).set (k + 1) .second).toArray := by
  have l2 := (List.getElem?_eq_some_iff.mp h).1
  have e2 : (L.set k (.val v))[k + 1]? = some o := by rw [List.getElem?_set_ne (by omega)]; exact h
  simp only [storeSelf, Option.bind_eq_bind, setAt_l l, Option.bind_some]
  rw [if_pos hv, get_l e2, Option.bind_some]
  rcases ho with (rfl | ⟨w, rfl, hw⟩) | rfl
  · exact setAt_l (by rw [List.length_set]; exact l2)
  · dsimp only
    rw [if_neg (by rw [hw]; decide)]
    exact setAt_l (by rw [List.length_set]; exact l2)
  · exact setAt_l (by rw [List.length_set]; exact l2)
theorem self_3 {L : List Slot} {k : Nat} {v w : Value} (hv : v.category = 2) (h : L[k + 1]? = some (.val w)) (hw : w.category = 2) (l3 : k + 2 < L.length) (l : k < L.length) : storeSelf L.toArray k v = some (((L.set k (.val v)).set (k + 2) .unset).set (k + 1) .second).toArray := by
  have l2 := (List.getElem?_eq_some_iff.mp h).1
  have e2 : (L.set k (.val v))[k + 1]? = some (.val w) := by rw [List.getElem?_set_ne (by omega)]; exact h
  simp only [storeSelf, Option.bind_eq_bind, setAt_l l, Option.bind_some]
  rw [if_pos hv, get_l e2, Option.bind_some]
  dsimp only
  rw [if_pos hw, setAt_l (by rw [List.length_set]; exact l3), Option.bind_some, setAt_l (by rw [List.length_set, List.length_set]; exact l2)]
theorem stx {L : List Slot} {k : Nat} {o : Slot} {v : Value} (h : L[k]? = some o) (ho : k1 o) (hv : v.category = 1) : storeLocals L.toArray k v = some (L.set k (.val v)).toArray := by
  rw [store_k h ho, self_1 hv (List.getElem?_eq_some_iff.mp h).1]
theorem stx3 {L : List Slot} {k : Nat} {o o2 : Slot} {u : Int64} (h : L[k]? = some o) (h2 : L[k + 1]? = some o2) (ho : k1 o) (ho2 : k1 o2) : storeLocals L.toArray k (.long u) = some ((L.set k (.val (.long u))).set (k + 1) .second).toArray := by
  rw [store_k h ho, self_2 rfl h2 (Or.inl ho2) (List.getElem?_eq_some_iff.mp h).1]
theorem stx2 {L : List Slot} {k : Nat} {o o2 : Slot} {u : Int64} (h : L[k]? = some o) (h2 : L[k + 1]? = some o2) (ho : k2 o o2) : storeLocals L.toArray k (.long u) = some ((L.set k (.val (.long u))).set (k + 1) .second).toArray := by
  have l1 := (List.getElem?_eq_some_iff.mp h).1
  have l2 := (List.getElem?_eq_some_iff.mp h2).1
  rcases ho with ⟨rfl, rfl⟩ | ⟨u', rfl, rfl⟩
  · exact stx3 h h2 (Or.inl rfl) (Or.inl rfl)
  · rw [store_2 h rfl l2, self_2 (o := .unset) rfl (by rw [List.getElem?_set_self l2]) (Or.inl (Or.inl rfl)) (by rw [List.length_set]; exact l1)]
    rw [List.set_comm _ _ (show k + 1 ≠ k by omega), List.set_set]
theorem stx4 {L : List Slot} {k : Nat} {o2 : Slot} {w : Int64} {v : Value} (h : L[k]? = some (.val (.long w))) (h2 : L[k + 1]? = some o2) (hv : v.category = 1) : storeLocals L.toArray k v = some ((L.set (k + 1) .unset).set k (.val v)).toArray := by
  rw [store_2 h rfl (List.getElem?_eq_some_iff.mp h2).1, self_1 hv (by rw [List.length_set]; exact (List.getElem?_eq_some_iff.mp h).1)]
theorem stx5 {L : List Slot} {k : Nat} {o o3 : Slot} {w u : Int64} (h : L[k]? = some o) (ho : k1 o) (h2 : L[k + 1]? = some (.val (.long w))) (h3 : L[k + 2]? = some o3) : storeLocals L.toArray k (.long u) = some (((L.set k (.val (.long u))).set (k + 2) .unset).set (k + 1) .second).toArray := by
  rw [store_k h ho, self_3 rfl h2 rfl (List.getElem?_eq_some_iff.mp h3).1 (List.getElem?_eq_some_iff.mp h).1]
/-- a tail of dead variables -/
def wtf : Slot ⊕ Int64 → List Slot
  | .inl x => [x]
  | .inr u => [.val (.long u), .second]
def WT (D : List Slot) : Prop := ∃ l : List (Slot ⊕ Int64), D = l.flatMap wtf ∧ ∀ x, Sum.inl x ∈ l → k1 x
theorem wt0 : WT [] := ⟨[], rfl, fun _ h => nomatch h⟩
theorem wt1 {x : Slot} {D : List Slot} (h : k1 x) (W : WT D) : WT (x :: D) := by
  obtain ⟨l, rfl, g⟩ := W
  refine ⟨.inl x :: l, by simp [wtf], fun y hy => ?_⟩
  rcases List.mem_cons.mp hy with e | e
  · cases e; exact h
  · exact g y e
theorem wt2 {u : Int64} {D : List Slot} (W : WT D) : WT (.val (.long u) :: .second :: D) := by
  obtain ⟨l, rfl, g⟩ := W
  refine ⟨.inr u :: l, by simp [wtf], fun y hy => ?_⟩
  rcases List.mem_cons.mp hy with e | e
  · cases e
  · exact g y e
theorem wt12 {x y : Slot} {D : List Slot} (h : k2 x y) (W : WT D) : WT (x :: y :: D) := by
  rcases h with ⟨rfl, rfl⟩ | ⟨u, rfl, rfl⟩
  · exact wt1 (Or.inl rfl) (wt1 (Or.inl rfl) W)
  · exact wt2 W
theorem wt_cases {D : List Slot} (W : WT D) : D = [] ∨ (∃ x E, D = x :: E ∧ k1 x ∧ WT E) ∨ ∃ u E, D = .val (.long u) :: .second :: E ∧ WT E := by
  obtain ⟨l, rfl, g⟩ := W
  match l, g with
  | [], _ => exact Or.inl rfl
  | .inl x :: r, g => exact Or.inr (Or.inl ⟨x, r.flatMap wtf, by simp [wtf], g x (List.mem_cons_self ..), r, rfl, fun y hy => g y (List.mem_cons_of_mem _ hy)⟩)
  | .inr u :: r, g => exact Or.inr (Or.inr ⟨u, r.flatMap wtf, by simp [wtf], r, rfl, fun y hy => g y (List.mem_cons_of_mem _ hy)⟩)
theorem stT {L0 D : List Slot} {v : Value} {n : Nat} (W : WT D) (hl : D.length = n + 1) (hv : v.category = 1) : ∃ D', WT D' ∧ D'.length = n ∧ storeLocals (L0 ++ D).toArray L0.length v = some (L0 ++ ([.val v] : List Slot) ++ D').toArray := by
  rcases wt_cases W with rfl | ⟨x, E, rfl, hx, WE⟩ | ⟨u, E, rfl, WE⟩
  · simp at hl
  · refine ⟨E, WE, by simpa using hl, ?_⟩
    rw [stx (o := x) (by simp) hx hv]; simp
  · refine ⟨.unset :: E, wt1 (Or.inl rfl) WE, by simpa using hl, ?_⟩
    rw [stx4 (w := u) (o2 := .second) (by simp) (by rw [List.getElem?_append_right (by omega)]; simp) hv]
    simp [List.set_append]
theorem stT2 {L0 D : List Slot} {u : Int64} {n : Nat} (W : WT D) (hl : D.length = n + 2) : ∃ D', WT D' ∧ D'.length = n ∧ storeLocals (L0 ++ D).toArray L0.length (.long u) = some (L0 ++ ([.val (.long u), .second] : List Slot) ++ D').toArray := by
  rcases wt_cases W with rfl | ⟨x, E, rfl, hx, WE⟩ | ⟨w, E, rfl, WE⟩
  · simp at hl
  · rcases wt_cases WE with rfl | ⟨y, F, rfl, hy, WF⟩ | ⟨w, F, rfl, WF⟩
    · simp at hl
    · refine ⟨F, WF, by simpa using hl, ?_⟩
      rw [stx3 (o := x) (o2 := y) (by simp) (by rw [List.getElem?_append_right (by omega)]; simp) hx hy]
      simp [List.set_append]
    · refine ⟨.unset :: F, wt1 (Or.inl rfl) WF, by simpa using hl, ?_⟩
      rw [stx5 (o := x) (w := w) (o3 := .second) (by simp) hx (by rw [List.getElem?_append_right (by omega)]; simp) (by rw [List.getElem?_append_right (by omega)]; simp)]
      simp [List.set_append]
  · refine ⟨E, WE, by simpa using hl, ?_⟩
    rw [stx2 (o := .val (.long w)) (o2 := .second) (by simp) (by rw [List.getElem?_append_right (by omega)]; simp) (Or.inr ⟨w, rfl, rfl⟩)]
    simp [List.set_append]
/-- the variables at a method's entry -/
def argL : List Value → List Slot
  | [] => []
  | v :: r => if v.category = 2 then .val v :: .second :: argL r else .val v :: argL r
def entryL (as : List Value) (n : Nat) : List Slot := argL as ++ List.replicate (n - (argL as).length) .unset
theorem argL_fold : ∀ (as : List Value) (acc : List Slot), as.foldl (fun acc v => if v.category = 2 then (acc.push (.val v)).push .second else acc.push (.val v)) acc.toArray = (acc ++ argL as).toArray
  | [], acc => by simp [argL]
  | v :: r, acc => by
    simp only [List.foldl_cons, argL]
    split
    · rename_i q
      rw [show ((acc.toArray.push (Slot.val v)).push Slot.second) = (acc ++ [Slot.val v, Slot.second]).toArray by simp, argL_fold r]
      simp
    · rename_i q
      rw [show (acc.toArray.push (Slot.val v)) = (acc ++ [Slot.val v]).toArray by simp, argL_fold r]
      simp
theorem argL_map (α b : Nat) : ∀ as : List Value, argL (cV α b as) = (argL as).map (cs α b)
  | [] => rfl
  | v :: r => by
    have ih := argL_map α b r
    simp only [cV, List.map_cons, argL, con_cat] at ih ⊢
    split <;> simp [ih, cs]
theorem entry_locals (α b : Nat) (as : List Value) (n : Nat) : argsToLocals (cV α b as).toArray n = cL α b (entryL as n) := by
  have h := argL_fold (cV α b as) []
  simp only [List.nil_append] at h
  have h' : (cV α b as).toArray.foldl (fun acc v => if v.category = 2 then (acc.push (Slot.val v)).push Slot.second else acc.push (Slot.val v)) #[] = (argL (cV α b as)).toArray := by
    rw [← h]; simp
  simp only [argsToLocals]
  rw [h', argL_map]
  simp [cL, entryL, List.map_append, cs]
/-! ## 3. What the heap shows -/
def scV (ty : FieldType) (s : S) (f : Nat) : Value := match ty with
  | .long => .long (gL s f)
  | _ => .int (gI s f)
def arV (ty : FieldType) (s : S) (q : Nat) : List Value := match ty with
  | .long => (gB s q).map .long
  | _ => (gA s q).map .int
def Ar (Z : State) (h : Heap) (a : Nat) (ty : FieldType) (vs : List Value) : Prop := ∃ c : Cell, Arr Z h a c ty ∧ c.slots = vs.toArray
def Rep1 (Z : State) (ci : CI) (h : Heap) (b : Nat) (o : Nat × S) : Prop :=
  Exa Z h b (cN ci) ∧ (∀ f x, (cS ci)[f]? = some x → Fld Z h b (cN ci) x.1 x.2.1 (scV x.2.2 o.2 f)) ∧
  (∀ q x, (cA ci)[q]? = some x → Fld Z h b (cN ci) x.1 x.2.1 (if q < o.1 then .ref (b + 1 + q) else .null)) ∧
  (∀ q x, (cA ci)[q]? = some x → q < o.1 → Ar Z h (b + 1 + q) x.2.2.1 (arV x.2.2.1 o.2 q))
def RepW (Z : State) (ci : CI) (α b : Nat) (w : W) (h : Heap) : Prop :=
  (∀ l, w.1 = some l → Ar Z h α .int (l.map .int) ∧ α < b) ∧ ∀ i o, w.2[i]? = some o → Rep1 Z ci h (b + (cK ci + 1) * i) o
def Frm (lo hi : Nat) (h0 h : Heap) : Prop := ∀ (x : Nat) (c : Cell), h0[x]? = some c → (x < lo ∨ hi ≤ x) → h[x]? = some c
def usedC (w : W) : Nat := (w.2.map fun o => 1 + o.1).sum
def usedS (ci : CI) (w : W) : Nat := (w.2.map fun o => cF ci + (((cA ci).take o.1).map fun x => x.2.2.2).sum).sum
/-- what the sheet says of the class -/
def Facts (Z : State) (a0 : Array Value) (ci : CI) : Prop :=
  (Jvm.Cond.instantiable (cN ci) (cF ci)).before a0 Z = true ∧ (Jvm.Cond.initialized (cN ci)).before a0 Z = true ∧
  (∀ (f : Nat) (x : String × String × FieldType), (cS ci)[f]? = some x → Laid Z a0 (cN ci) (cN ci) x.1 x.2.1 ∧ parseFieldDescriptor x.2.1 = some x.2.2) ∧
  (∀ (q : Nat) (x : String × String × FieldType × Nat), (cA ci)[q]? = some x → Laid Z a0 (cN ci) (cN ci) x.1 x.2.1 ∧ parseFieldDescriptor x.2.1 = some (.array x.2.2.1)) ∧
  ((cS ci).map (fun x => x.1) ++ (cA ci).map (fun x => x.1)).Nodup ∧ (∀ f x, (cS ci)[f]? = some x → defaultValue x.2.2 = scV x.2.2 s0 f) ∧ (cN ci ≠ "java/lang/invoke/MethodHandle" ∧ cN ci ≠ "java/lang/invoke/VarHandle")
theorem nq {a b : Nat} (h : a ≠ b) : @Ne Addr a b := h
theorem Ar.frm {Z : State} {h h' : Heap} {a : Nat} {ty : FieldType} {vs : List Value} (A : Ar Z h a ty vs) (k : ∀ c, h[a]? = some c → h'[a]? = some c) : Ar Z h' a ty vs := by
  obtain ⟨c, ⟨q1, q2⟩, q3⟩ := A; exact ⟨c, ⟨k c q1, q2⟩, q3⟩
theorem fld_frm {Z : State} {h h' : Heap} {a : Nat} {C n d : String} {v : Value} (F : Fld Z h a C n d v) (k : ∀ c, h[a]? = some c → h'[a]? = some c) : Fld Z h' a C n d v := by
  obtain ⟨cell, cf, kc, i, f, h1, r⟩ := F; exact ⟨cell, cf, kc, i, f, k _ h1, r⟩
theorem exa_frm {Z : State} {h h' : Heap} {a : Nat} {C : String} (F : Exa Z h a C) (k : ∀ c, h[a]? = some c → h'[a]? = some c) : Exa Z h' a C := by
  obtain ⟨cell, kc, h1, r⟩ := F; exact ⟨cell, kc, k _ h1, r⟩
theorem get_lt {A : Type} {l : List A} {i : Nat} {x : A} (h : l[i]? = some x) : i < l.length := (List.getElem?_eq_some_iff.mp h).1
theorem Rep1.frm {Z : State} {ci : CI} {h h' : Heap} {b : Nat} {o : Nat × S} (F : Rep1 Z ci h b o) (k : ∀ x c, b ≤ x → x < b + (cK ci + 1) → h[x]? = some c → h'[x]? = some c) : Rep1 Z ci h' b o := by
  obtain ⟨f1, f2, f3, f4⟩ := F
  refine ⟨exa_frm f1 fun c => k b c (Nat.le_refl _) (by omega), fun f x hx => fld_frm (f2 f x hx) fun c => k b c (Nat.le_refl _) (by omega), fun q x hx => fld_frm (f3 q x hx) fun c => k b c (Nat.le_refl _) (by omega), fun q x hx hq => (f4 q x hx hq).frm fun c => k _ c (by omega) ?_⟩
  have := get_lt hx
  simp only [cK]; omega
theorem RepW.ext {Z : State} {ci : CI} {α b : Nat} {w : W} {h h' : Heap} (F : RepW Z ci α b w h) (E : Ext h h') : RepW Z ci α b w h' :=
  ⟨fun l hl => ⟨((F.1 l hl).1).frm fun c q => E.2 _ _ q, (F.1 l hl).2⟩, fun i o ho => (F.2 i o ho).frm fun x c _ _ q => E.2 _ _ q⟩
theorem Frm.refl (lo hi : Nat) (h : Heap) : Frm lo hi h h := fun _ _ q _ => q
theorem Frm.trans {lo hi : Nat} {h0 h1 h2 : Heap} (A : Frm lo hi h0 h1) (B : Frm lo hi h1 h2) : Frm lo hi h0 h2 := fun x c q r => B x c (A x c q r) r
theorem Frm.wide {lo hi lo' hi' : Nat} {h0 h1 : Heap} (A : Frm lo hi h0 h1) (q1 : lo' ≤ lo) (q2 : hi ≤ hi') : Frm lo' hi' h0 h1 := fun x c q r => A x c q (by omega)
theorem Frm.ext {lo hi : Nat} {h0 h1 h2 : Heap} (A : Frm lo hi h0 h1) (E : Ext h1 h2) : Frm lo hi h0 h2 := fun x c q r => E.2 _ _ (A x c q r)
theorem Frm.wr {lo hi : Nat} {h0 h1 h2 : Heap} {a : Nat} {sl : Nat} {v : Value} (A : Frm lo hi h0 h1) (Wt : Wr h1 h2 a sl v) (q1 : lo ≤ a) (q2 : a < hi) : Frm lo hi h0 h2 := fun x c q r => by
  have q3 := A x c q r
  obtain ⟨c', e1, -, -, -, e5, -⟩ := wr_at Wt q3
  have : x ≠ a := by omega
  rw [← e5 this]; exact e1
/-! ## 4. The walk -/
def Ok (P : PI) (M : Meth) (Z : State) (a0 : Array Value) (p : Program) (R : Room) (s : State) (m : MethodId) (meth : Method) (c : Code) (b n0 : Nat) (h0 : Heap) (uC uS : Nat) : Prop :=
  (∀ d ∈ P.1, d.before a0 Z = true) ∧ Facts Z a0 P.2 ∧ p.tables.exec = Jvm.exec ∧ Z.Warmed39 s.vm ∧ s.vm.findClass (mY M).cls = some m.cls ∧ c.code = mB M ∧ c.maxLocals = mL M ∧ meth.sig.returnType = mT M ∧ meth.name = (mY M).name ∧ R = mR M ∧ n0 ≤ b ∧
  (mTop M = true → h0.size = b + uC ∧ uC = mUC M ∧ uS = mUS M) ∧ s.heap.size = h0.size
def Inv (P : PI) (M : Meth) (l : Launch) (Z : State) (p : Program) (e : Env) (R : Room) (s : State) (m : MethodId) (args : Array Value) (below : List Frame) (meth : Method) (c : Code) (α b n0 : Nat) (h0 : Heap) (uC uS : Nat) (w : W) (T : State) (locs : List Loc) (cells slots : Nat) : Prop :=
  Stand p l e R s m args below meth c T locs cells slots ∧ RepW Z P.2 α b w T.heap ∧ Frm b (b + (cK P.2 + 1) * mN M) h0 T.heap ∧ Fr n0 locs ∧ T.heap.size = h0.size + cells ∧ cells + uC = usedC w ∧ slots + uS = usedS P.2 w ∧ cells ≤ R.cells ∧ slots ≤ R.slots ∧ w.2.length ≤ mN M
def Lv (e : Env) (T : State) (m : MethodId) (r : Option Value) (fs : List Frame) : Prop := ∀ (f : JFrame) (acts : List Action), f.method = m → f.locked = none → f.entered = [] → (doReturn e (T.setTop f) acts r).1 = T.setFrames fs
/-- from here the invocation comes to its end, with this value and this world -/
def Go (P : PI) (M : Meth) (pc : Nat) (L : List Slot) (st : List Value) (w : W) (out : Option Value × W) : Prop :=
  L.length = mL M → ∀ (l : Launch) (Z : State) (a0 : Array Value) (p : Program) (e : Env) (R : Room) (s : State) (m : MethodId) (args : Array Value) (below : List Frame) (meth : Method) (c : Code) (α b n0 : Nat) (h0 : Heap) (uC uS : Nat),
    Ok P M Z a0 p R s m meth c b n0 h0 uC uS → ∀ (T : State) (locs : List Loc) (cells slots : Nat), Inv P M l Z p e R s m args below meth c α b n0 h0 uC uS w T locs cells slots →
    ∃ (T' : State) (locs' : List Loc) (cells' slots' : Nat), Inv P M l Z p e R s m args below meth c α b n0 h0 uC uS out.2 T' locs' cells' slots' ∧
      ∀ fs, Lv e T' m (out.1.map (con α b)) fs → Steps p.tables e below (T.setTop (mkF m pc (cL α b L) (cV α b st))) (T'.setFrames fs)
section Rules
variable {P : PI} {M : Meth} {pc pc' : Nat} {L L' : List Slot} {st st' : List Value} {w w' : W} {out : Option Value × W} {x y z v : Int32} {u r : Int64}
theorem go_mv (hL : L.length = mL M → L'.length = mL M)
    (H : ∀ {p : Program} {e : Env} {below : List Frame} {T target : State} {m : MethodId} {c : Code}, At T m c below → p.tables.exec = Jvm.exec → c.code = mB M → ∀ α b : Nat, Steps p.tables e below (T.setTop (mkF m pc' (cL α b L') (cV α b st'))) target → Steps p.tables e below (T.setTop (mkF m pc (cL α b L) (cV α b st))) target)
    (k : Go P M pc' L' st' w out) : Go P M pc L st w out := by
  intro hl l Z a0 p e R s m args below meth c α b n0 h0 uC uS ok T locs cells slots I
  obtain ⟨T', l', c', n', I', fin⟩ := k (hL hl) l Z a0 p e R s m args below meth c α b n0 h0 uC uS ok T locs cells slots I
  exact ⟨T', l', c', n', I', fun fs hv => H I.1.here ok.2.2.1 ok.2.2.2.2.2.1 α b (fin fs hv)⟩
theorem go_ch (H : ∀ (l : Launch) (Z : State) (a0 : Array Value) (p : Program) (e : Env) (R : Room) (s : State) (m : MethodId) (args : Array Value) (below : List Frame) (meth : Method) (c : Code) (α b n0 : Nat) (h0 : Heap) (uC uS : Nat),
      Ok P M Z a0 p R s m meth c b n0 h0 uC uS → L.length = mL M → ∀ (T : State) (locs : List Loc) (cells slots : Nat), Inv P M l Z p e R s m args below meth c α b n0 h0 uC uS w T locs cells slots →
      ∃ (T' : State) (locs' : List Loc) (cells' slots' : Nat), Inv P M l Z p e R s m args below meth c α b n0 h0 uC uS w' T' locs' cells' slots' ∧
        ∀ target, Steps p.tables e below (T'.setTop (mkF m pc' (cL α b L) (cV α b st'))) target → Steps p.tables e below (T.setTop (mkF m pc (cL α b L) (cV α b st))) target)
    (k : Go P M pc' L st' w' out) : Go P M pc L st w out := by
  intro hl l Z a0 p e R s m args below meth c α b n0 h0 uC uS ok T locs cells slots I
  obtain ⟨T1, l1, c1, n1, I1, h1⟩ := H l Z a0 p e R s m args below meth c α b n0 h0 uC uS ok hl T locs cells slots I
  obtain ⟨T', l', c', n', I', fin⟩ := k hl l Z a0 p e R s m args below meth c α b n0 h0 uC uS ok T1 l1 c1 n1 I1
  exact ⟨T', l', c', n', I', fun fs hv => h1 _ (fin fs hv)⟩
/-! ### loads, stores, constants -/
theorem go_iloadN {k : Fin 4} (d : decode (mB M) pc = .ok (.iload_n k, 1)) (hl : L[k.val]? = some (.val (.int v))) (g : Go P M (pc + 1) L (.int v :: st) w out) : Go P M pc L (st) w out :=
  go_mv id (fun h hx hc α b r => XS.iloadN (g := mkF _ pc (cL α b L) (cV α b (st))) h hx rfl (hb hc d) (cL_get hl) r) g
theorem go_iload {k : Nat} (d : decode (mB M) pc = .ok (.iload k, 2)) (hl : L[k]? = some (.val (.int v))) (g : Go P M (pc + 2) L (.int v :: st) w out) : Go P M pc L (st) w out :=
  go_mv id (fun h hx hc α b r => XS.iload (g := mkF _ pc (cL α b L) (cV α b (st))) h hx rfl (hb hc d) (cL_get hl) r) g
theorem go_lloadN {k : Fin 4} (d : decode (mB M) pc = .ok (.lload_n k, 1)) (hl : L[k.val]? = some (.val (.long u))) (g : Go P M (pc + 1) L (.long u :: st) w out) : Go P M pc L (st) w out :=
  go_mv id (fun h hx hc α b r => XT.lloadN (g := mkF _ pc (cL α b L) (cV α b (st))) h hx rfl (hb hc d) (cL_get hl) r) g
theorem go_lload {k : Nat} (d : decode (mB M) pc = .ok (.lload k, 2)) (hl : L[k]? = some (.val (.long u))) (g : Go P M (pc + 2) L (.long u :: st) w out) : Go P M pc L (st) w out :=
  go_mv id (fun h hx hc α b r => XT.lload (g := mkF _ pc (cL α b L) (cV α b (st))) h hx rfl (hb hc d) (cL_get hl) r) g
theorem go_aloadN {k : Fin 4} {a : Nat} (d : decode (mB M) pc = .ok (.aload_n k, 1)) (hl : L[k.val]? = some (.val (.ref a))) (g : Go P M (pc + 1) L (.ref a :: st) w out) : Go P M pc L (st) w out :=
  go_mv id (fun h hx hc α b r => XS.aloadN (g := mkF _ pc (cL α b L) (cV α b (st))) h hx rfl (hb hc d) (cL_get hl) (con_ref α b (.ref a)) r) g
theorem go_aload {k : Nat} {a : Nat} (d : decode (mB M) pc = .ok (.aload k, 2)) (hl : L[k]? = some (.val (.ref a))) (g : Go P M (pc + 2) L (.ref a :: st) w out) : Go P M pc L (st) w out :=
  go_mv id (fun h hx hc α b r => XS.aload (g := mkF _ pc (cL α b L) (cV α b (st))) h hx rfl (hb hc d) (cL_get hl) (con_ref α b (.ref a)) r) g
theorem go_istoreN {k : Fin 4} (d : decode (mB M) pc = .ok (.istore_n k, 1)) (hl : storeLocals L.toArray k.val (.int x) = some L'.toArray) (g : Go P M (pc + 1) L' (st) w out) : Go P M pc L (.int x :: st) w out :=
  go_mv (fun q => by have := store_size hl; simp at this; omega) (fun h hx hc α b r => XS.istoreN (g := mkF _ pc (cL α b L) (cV α b (.int x :: st))) h hx rfl (hb hc d) rfl (storeC hl) r) g
theorem go_istore {k : Nat} (d : decode (mB M) pc = .ok (.istore k, 2)) (hl : storeLocals L.toArray k (.int x) = some L'.toArray) (g : Go P M (pc + 2) L' (st) w out) : Go P M pc L (.int x :: st) w out :=
  go_mv (fun q => by have := store_size hl; simp at this; omega) (fun h hx hc α b r => XS.istore (g := mkF _ pc (cL α b L) (cV α b (.int x :: st))) h hx rfl (hb hc d) rfl (storeC hl) r) g
theorem go_lstoreN {k : Fin 4} (d : decode (mB M) pc = .ok (.lstore_n k, 1)) (hl : storeLocals L.toArray k.val (.long u) = some L'.toArray) (g : Go P M (pc + 1) L' (st) w out) : Go P M pc L (.long u :: st) w out :=
  go_mv (fun q => by have := store_size hl; simp at this; omega) (fun h hx hc α b r => XT.lstoreN (g := mkF _ pc (cL α b L) (cV α b (.long u :: st))) h hx rfl (hb hc d) rfl (storeC hl) r) g
theorem go_lstore {k : Nat} (d : decode (mB M) pc = .ok (.lstore k, 2)) (hl : storeLocals L.toArray k (.long u) = some L'.toArray) (g : Go P M (pc + 2) L' (st) w out) : Go P M pc L (.long u :: st) w out :=
  go_mv (fun q => by have := store_size hl; simp at this; omega) (fun h hx hc α b r => XT.lstore (g := mkF _ pc (cL α b L) (cV α b (.long u :: st))) h hx rfl (hb hc d) rfl (storeC hl) r) g
theorem go_astoreN {k : Fin 4} {a : Nat} (d : decode (mB M) pc = .ok (.astore_n k, 1)) (hl : storeLocals L.toArray k.val (.ref a) = some L'.toArray) (g : Go P M (pc + 1) L' (st) w out) : Go P M pc L (.ref a :: st) w out :=
  go_mv (fun q => by have := store_size hl; simp at this; omega) (fun h hx hc α b r => XS.astoreN (g := mkF _ pc (cL α b L) (cV α b (.ref a :: st))) h hx rfl (hb hc d) rfl (con_ref α b (.ref a)) (storeC hl) r) g
theorem go_astore {k : Nat} {a : Nat} (d : decode (mB M) pc = .ok (.astore k, 2)) (hl : storeLocals L.toArray k (.ref a) = some L'.toArray) (g : Go P M (pc + 2) L' (st) w out) : Go P M pc L (.ref a :: st) w out :=
  go_mv (fun q => by have := store_size hl; simp at this; omega) (fun h hx hc α b r => XS.astore (g := mkF _ pc (cL α b L) (cV α b (.ref a :: st))) h hx rfl (hb hc d) rfl (con_ref α b (.ref a)) (storeC hl) r) g
theorem go_istoreNT {k : Fin 4} {L0 L1 D : List Slot} {n : Nat} (d : decode (mB M) pc = .ok (.istore_n k, 1)) (hk : k.val = L0.length) (h1 : L1 = L0 ++ [.val (.int x)]) (W : WT D) (hl : D.length = n + 1) (g : ∀ D', WT D' → D'.length = n → Go P M (pc + 1) (L1 ++ D') st w out) : Go P M pc (L0 ++ D) (.int x :: st) w out := by
  obtain ⟨D', W', l', e⟩ := stT (L0 := L0) (v := .int x) W hl rfl
  subst h1
  exact go_istoreN d (by rw [hk]; exact e) (g D' W' l')
theorem go_istoreT {k : Nat} {L0 L1 D : List Slot} {n : Nat} (d : decode (mB M) pc = .ok (.istore k, 2)) (hk : k = L0.length) (h1 : L1 = L0 ++ [.val (.int x)]) (W : WT D) (hl : D.length = n + 1) (g : ∀ D', WT D' → D'.length = n → Go P M (pc + 2) (L1 ++ D') st w out) : Go P M pc (L0 ++ D) (.int x :: st) w out := by
  obtain ⟨D', W', l', e⟩ := stT (L0 := L0) (v := .int x) W hl rfl
  subst h1
  exact go_istore d (by rw [hk]; exact e) (g D' W' l')
theorem go_astoreNT {k : Fin 4} {L0 L1 D : List Slot} {n : Nat} {a : Nat} (d : decode (mB M) pc = .ok (.astore_n k, 1)) (hk : k.val = L0.length) (h1 : L1 = L0 ++ [.val (.ref a)]) (W : WT D) (hl : D.length = n + 1) (g : ∀ D', WT D' → D'.length = n → Go P M (pc + 1) (L1 ++ D') st w out) : Go P M pc (L0 ++ D) (.ref a :: st) w out := by
  obtain ⟨D', W', l', e⟩ := stT (L0 := L0) (v := .ref a) W hl rfl
  subst h1
  exact go_astoreN d (by rw [hk]; exact e) (g D' W' l')
theorem go_astoreT {k : Nat} {L0 L1 D : List Slot} {n : Nat} {a : Nat} (d : decode (mB M) pc = .ok (.astore k, 2)) (hk : k = L0.length) (h1 : L1 = L0 ++ [.val (.ref a)]) (W : WT D) (hl : D.length = n + 1) (g : ∀ D', WT D' → D'.length = n → Go P M (pc + 2) (L1 ++ D') st w out) : Go P M pc (L0 ++ D) (.ref a :: st) w out := by
  obtain ⟨D', W', l', e⟩ := stT (L0 := L0) (v := .ref a) W hl rfl
  subst h1
  exact go_astore d (by rw [hk]; exact e) (g D' W' l')
theorem go_lstoreNT {k : Fin 4} {L0 L1 D : List Slot} {n : Nat} (d : decode (mB M) pc = .ok (.lstore_n k, 1)) (hk : k.val = L0.length) (h1 : L1 = L0 ++ [.val (.long u), .second]) (W : WT D) (hl : D.length = n + 2) (g : ∀ D', WT D' → D'.length = n → Go P M (pc + 1) (L1 ++ D') st w out) : Go P M pc (L0 ++ D) (.long u :: st) w out := by
  obtain ⟨D', W', l', e⟩ := stT2 (L0 := L0) (u := u) W hl
  subst h1
  exact go_lstoreN d (by rw [hk]; exact e) (g D' W' l')
theorem go_lstoreT {k : Nat} {L0 L1 D : List Slot} {n : Nat} (d : decode (mB M) pc = .ok (.lstore k, 2)) (hk : k = L0.length) (h1 : L1 = L0 ++ [.val (.long u), .second]) (W : WT D) (hl : D.length = n + 2) (g : ∀ D', WT D' → D'.length = n → Go P M (pc + 2) (L1 ++ D') st w out) : Go P M pc (L0 ++ D) (.long u :: st) w out := by
  obtain ⟨D', W', l', e⟩ := stT2 (L0 := L0) (u := u) W hl
  subst h1
  exact go_lstore d (by rw [hk]; exact e) (g D' W' l')
theorem go_iconst {i : Int} (d : decode (mB M) pc = .ok (.iconst i, 1)) (hv : v = Int32.ofInt i) (g : Go P M (pc + 1) L (.int v :: st) w out) : Go P M pc L (st) w out :=
  go_mv id (fun h hx hc α b r => XS.iconst (g := mkF _ pc (cL α b L) (cV α b (st))) h hx rfl (hb hc d) (hv ▸ r)) g
theorem go_bipush {i : Int} (d : decode (mB M) pc = .ok (.bipush i, 2)) (hv : v = (Int8.ofInt i).toInt32) (g : Go P M (pc + 2) L (.int v :: st) w out) : Go P M pc L (st) w out :=
  go_mv id (fun h hx hc α b r => XS.bipush (g := mkF _ pc (cL α b L) (cV α b (st))) h hx rfl (hb hc d) (hv ▸ r)) g
theorem go_sipush {i : Int} (d : decode (mB M) pc = .ok (.sipush i, 3)) (hv : v = (Int16.ofInt i).toInt32) (g : Go P M (pc + 3) L (.int v :: st) w out) : Go P M pc L (st) w out :=
  go_mv id (fun h hx hc α b r => XS.sipush (g := mkF _ pc (cL α b L) (cV α b (st))) h hx rfl (hb hc d) (hv ▸ r)) g
theorem go_lconst {i : Fin 2} (d : decode (mB M) pc = .ok (.lconst i, 1)) (hv : u = Int64.ofNat i) (g : Go P M (pc + 1) L (.long u :: st) w out) : Go P M pc L (st) w out :=
  go_mv id (fun h hx hc α b r => XT.lconst (g := mkF _ pc (cL α b L) (cV α b (st))) h hx rfl (hb hc d) (hv ▸ r)) g
theorem go_dup  (d : decode (mB M) pc = .ok (.dup, 1))  (g : Go P M (pc + 1) L (.int x :: .int x :: st) w out) : Go P M pc L (.int x :: st) w out :=
  go_mv id (fun h hx hc α b r => XS.dup (g := mkF _ pc (cL α b L) (cV α b (.int x :: st))) h hx rfl (hb hc d) rfl rfl r) g
theorem go_dupR {a : Nat} (d : decode (mB M) pc = .ok (.dup, 1))  (g : Go P M (pc + 1) L (.ref a :: .ref a :: st) w out) : Go P M pc L (.ref a :: st) w out :=
  go_mv id (fun h hx hc α b r => XS.dup (g := mkF _ pc (cL α b L) (cV α b (.ref a :: st))) h hx rfl (hb hc d) rfl (con_cat α b (.ref a)) r) g
theorem go_dup2 {a : Nat} (d : decode (mB M) pc = .ok (.dup2, 1))  (g : Go P M (pc + 1) L (.int x :: .ref a :: .int x :: .ref a :: st) w out) : Go P M pc L (.int x :: .ref a :: st) w out :=
  go_mv id (fun h hx hc α b r => XT.dup2 (g := mkF _ pc (cL α b L) (cV α b (.int x :: .ref a :: st))) h hx rfl (hb hc d) rfl rfl (con_cat α b (.ref a)) r) g
theorem go_dup2I  (d : decode (mB M) pc = .ok (.dup2, 1))  (g : Go P M (pc + 1) L (.int x :: .int y :: .int x :: .int y :: st) w out) : Go P M pc L (.int x :: .int y :: st) w out :=
  go_mv id (fun h hx hc α b r => XT.dup2 (g := mkF _ pc (cL α b L) (cV α b (.int x :: .int y :: st))) h hx rfl (hb hc d) rfl rfl rfl r) g
theorem go_dup2L  (d : decode (mB M) pc = .ok (.dup2, 1))  (g : Go P M (pc + 1) L (.long u :: .long u :: st) w out) : Go P M pc L (.long u :: st) w out :=
  go_mv id (fun h hx hc α b r => XT.dup2L (g := mkF _ pc (cL α b L) (cV α b (.long u :: st))) h hx rfl (hb hc d) rfl r) g
theorem go_pop  (d : decode (mB M) pc = .ok (.pop, 1))  (g : Go P M (pc + 1) L (st) w out) : Go P M pc L (.int x :: st) w out :=
  go_mv id (fun h hx hc α b r => XT.pop (g := mkF _ pc (cL α b L) (cV α b (.int x :: st))) h hx rfl (hb hc d) rfl rfl r) g
theorem go_iadd  (d : decode (mB M) pc = .ok (.iadd, 1))  (g : Go P M (pc + 1) L (.int (x + y) :: st) w out) : Go P M pc L (.int y :: .int x :: st) w out :=
  go_mv id (fun h hx hc α b r => XS.iadd (g := mkF _ pc (cL α b L) (cV α b (.int y :: .int x :: st))) h hx rfl (hb hc d) rfl r) g
theorem go_isub  (d : decode (mB M) pc = .ok (.isub, 1))  (g : Go P M (pc + 1) L (.int (x - y) :: st) w out) : Go P M pc L (.int y :: .int x :: st) w out :=
  go_mv id (fun h hx hc α b r => XS.isub (g := mkF _ pc (cL α b L) (cV α b (.int y :: .int x :: st))) h hx rfl (hb hc d) rfl r) g
theorem go_imul  (d : decode (mB M) pc = .ok (.imul, 1))  (g : Go P M (pc + 1) L (.int (x * y) :: st) w out) : Go P M pc L (.int y :: .int x :: st) w out :=
  go_mv id (fun h hx hc α b r => XS.imul (g := mkF _ pc (cL α b L) (cV α b (.int y :: .int x :: st))) h hx rfl (hb hc d) rfl r) g
theorem go_iand  (d : decode (mB M) pc = .ok (.iand, 1))  (g : Go P M (pc + 1) L (.int (x &&& y) :: st) w out) : Go P M pc L (.int y :: .int x :: st) w out :=
  go_mv id (fun h hx hc α b r => XS.iand (g := mkF _ pc (cL α b L) (cV α b (.int y :: .int x :: st))) h hx rfl (hb hc d) rfl r) g
theorem go_ior  (d : decode (mB M) pc = .ok (.ior, 1))  (g : Go P M (pc + 1) L (.int (x ||| y) :: st) w out) : Go P M pc L (.int y :: .int x :: st) w out :=
  go_mv id (fun h hx hc α b r => XT.ior (g := mkF _ pc (cL α b L) (cV α b (.int y :: .int x :: st))) h hx rfl (hb hc d) rfl r) g
theorem go_ixor  (d : decode (mB M) pc = .ok (.ixor, 1))  (g : Go P M (pc + 1) L (.int (x ^^^ y) :: st) w out) : Go P M pc L (.int y :: .int x :: st) w out :=
  go_mv id (fun h hx hc α b r => XT.ixor (g := mkF _ pc (cL α b L) (cV α b (.int y :: .int x :: st))) h hx rfl (hb hc d) rfl r) g
theorem go_ishl  (d : decode (mB M) pc = .ok (.ishl, 1))  (g : Go P M (pc + 1) L (.int (x <<< (y &&& 31)) :: st) w out) : Go P M pc L (.int y :: .int x :: st) w out :=
  go_mv id (fun h hx hc α b r => XT.ishl (g := mkF _ pc (cL α b L) (cV α b (.int y :: .int x :: st))) h hx rfl (hb hc d) rfl r) g
theorem go_ishr  (d : decode (mB M) pc = .ok (.ishr, 1))  (g : Go P M (pc + 1) L (.int (x >>> (y &&& 31)) :: st) w out) : Go P M pc L (.int y :: .int x :: st) w out :=
  go_mv id (fun h hx hc α b r => XT.ishr (g := mkF _ pc (cL α b L) (cV α b (.int y :: .int x :: st))) h hx rfl (hb hc d) rfl r) g
theorem go_iushr  (d : decode (mB M) pc = .ok (.iushr, 1))  (g : Go P M (pc + 1) L (.int (XT.ushr x y) :: st) w out) : Go P M pc L (.int y :: .int x :: st) w out :=
  go_mv id (fun h hx hc α b r => XT.iushr (g := mkF _ pc (cL α b L) (cV α b (.int y :: .int x :: st))) h hx rfl (hb hc d) rfl r) g
theorem go_idiv  (d : decode (mB M) pc = .ok (.idiv, 1)) (hy : y ≠ 0) (g : Go P M (pc + 1) L (.int (x / y) :: st) w out) : Go P M pc L (.int y :: .int x :: st) w out :=
  go_mv id (fun h hx hc α b r => XS.idiv (g := mkF _ pc (cL α b L) (cV α b (.int y :: .int x :: st))) h hx rfl (hb hc d) rfl hy r) g
theorem go_irem  (d : decode (mB M) pc = .ok (.irem, 1)) (hy : y ≠ 0) (g : Go P M (pc + 1) L (.int (x % y) :: st) w out) : Go P M pc L (.int y :: .int x :: st) w out :=
  go_mv id (fun h hx hc α b r => XS.irem (g := mkF _ pc (cL α b L) (cV α b (.int y :: .int x :: st))) h hx rfl (hb hc d) rfl hy (by rw [irem_eq_mod x y]; exact r)) g
theorem go_ineg  (d : decode (mB M) pc = .ok (.ineg, 1))  (g : Go P M (pc + 1) L (.int (-x) :: st) w out) : Go P M pc L (.int x :: st) w out :=
  go_mv id (fun h hx hc α b r => XS.ineg (g := mkF _ pc (cL α b L) (cV α b (.int x :: st))) h hx rfl (hb hc d) rfl r) g
theorem go_ladd  (d : decode (mB M) pc = .ok (.ladd, 1))  (g : Go P M (pc + 1) L (.long (u + r) :: st) w out) : Go P M pc L (.long r :: .long u :: st) w out :=
  go_mv id (fun h hx hc α b k => XT.ladd (g := mkF _ pc (cL α b L) (cV α b (.long r :: .long u :: st))) h hx rfl (hb hc d) rfl k) g
theorem go_lsub  (d : decode (mB M) pc = .ok (.lsub, 1))  (g : Go P M (pc + 1) L (.long (u - r) :: st) w out) : Go P M pc L (.long r :: .long u :: st) w out :=
  go_mv id (fun h hx hc α b k => XT.lsub (g := mkF _ pc (cL α b L) (cV α b (.long r :: .long u :: st))) h hx rfl (hb hc d) rfl k) g
theorem go_lmul  (d : decode (mB M) pc = .ok (.lmul, 1))  (g : Go P M (pc + 1) L (.long (u * r) :: st) w out) : Go P M pc L (.long r :: .long u :: st) w out :=
  go_mv id (fun h hx hc α b k => XT.lmul (g := mkF _ pc (cL α b L) (cV α b (.long r :: .long u :: st))) h hx rfl (hb hc d) rfl k) g
theorem go_land  (d : decode (mB M) pc = .ok (.land, 1))  (g : Go P M (pc + 1) L (.long (u &&& r) :: st) w out) : Go P M pc L (.long r :: .long u :: st) w out :=
  go_mv id (fun h hx hc α b k => XT.land (g := mkF _ pc (cL α b L) (cV α b (.long r :: .long u :: st))) h hx rfl (hb hc d) rfl k) g
theorem go_lor  (d : decode (mB M) pc = .ok (.lor, 1))  (g : Go P M (pc + 1) L (.long (u ||| r) :: st) w out) : Go P M pc L (.long r :: .long u :: st) w out :=
  go_mv id (fun h hx hc α b k => XT.lor (g := mkF _ pc (cL α b L) (cV α b (.long r :: .long u :: st))) h hx rfl (hb hc d) rfl k) g
theorem go_lxor  (d : decode (mB M) pc = .ok (.lxor, 1))  (g : Go P M (pc + 1) L (.long (u ^^^ r) :: st) w out) : Go P M pc L (.long r :: .long u :: st) w out :=
  go_mv id (fun h hx hc α b k => XT.lxor (g := mkF _ pc (cL α b L) (cV α b (.long r :: .long u :: st))) h hx rfl (hb hc d) rfl k) g
theorem go_lshl  (d : decode (mB M) pc = .ok (.lshl, 1))  (g : Go P M (pc + 1) L (.long (u <<< (y.toInt64 &&& 63)) :: st) w out) : Go P M pc L (.int y :: .long u :: st) w out :=
  go_mv id (fun h hx hc α b r => XT.lshl (g := mkF _ pc (cL α b L) (cV α b (.int y :: .long u :: st))) h hx rfl (hb hc d) rfl r) g
theorem go_lshr  (d : decode (mB M) pc = .ok (.lshr, 1))  (g : Go P M (pc + 1) L (.long (u >>> (y.toInt64 &&& 63)) :: st) w out) : Go P M pc L (.int y :: .long u :: st) w out :=
  go_mv id (fun h hx hc α b r => XT.lshr (g := mkF _ pc (cL α b L) (cV α b (.int y :: .long u :: st))) h hx rfl (hb hc d) rfl r) g
theorem go_lushr  (d : decode (mB M) pc = .ok (.lushr, 1))  (g : Go P M (pc + 1) L (.long (XT.ushrL u y) :: st) w out) : Go P M pc L (.int y :: .long u :: st) w out :=
  go_mv id (fun h hx hc α b r => XT.lushr (g := mkF _ pc (cL α b L) (cV α b (.int y :: .long u :: st))) h hx rfl (hb hc d) rfl r) g
theorem go_lcmp  (d : decode (mB M) pc = .ok (.lcmp, 1))  (g : Go P M (pc + 1) L (.int (XT.cmpL u r) :: st) w out) : Go P M pc L (.long r :: .long u :: st) w out :=
  go_mv id (fun h hx hc α b k => XT.lcmp (g := mkF _ pc (cL α b L) (cV α b (.long r :: .long u :: st))) h hx rfl (hb hc d) rfl k) g
theorem go_i2l  (d : decode (mB M) pc = .ok (.i2l, 1))  (g : Go P M (pc + 1) L (.long x.toInt64 :: st) w out) : Go P M pc L (.int x :: st) w out :=
  go_mv id (fun h hx hc α b r => XT.i2l (g := mkF _ pc (cL α b L) (cV α b (.int x :: st))) h hx rfl (hb hc d) rfl r) g
theorem go_l2i  (d : decode (mB M) pc = .ok (.l2i, 1))  (g : Go P M (pc + 1) L (.int u.toInt32 :: st) w out) : Go P M pc L (.long u :: st) w out :=
  go_mv id (fun h hx hc α b r => XT.l2i (g := mkF _ pc (cL α b L) (cV α b (.long u :: st))) h hx rfl (hb hc d) rfl r) g
theorem go_i2b  (d : decode (mB M) pc = .ok (.i2b, 1))  (g : Go P M (pc + 1) L (.int x.toInt8.toInt32 :: st) w out) : Go P M pc L (.int x :: st) w out :=
  go_mv id (fun h hx hc α b r => XT.i2b (g := mkF _ pc (cL α b L) (cV α b (.int x :: st))) h hx rfl (hb hc d) rfl r) g
theorem go_iinc {k : Nat} {i : Int} (d : decode (mB M) pc = .ok (.iinc k i, 3)) (h1 : L[k]? = some (.val (.int x))) (hv : v = Int32.ofInt i) (hl : storeLocals L.toArray k (.int (x + v)) = some L'.toArray) (g : Go P M (pc + 3) L' (st) w out) : Go P M pc L (st) w out :=
  by subst hv; exact go_mv (fun q => by have := store_size hl; simp at this; omega) (fun h hx hc α b r => XS.iinc (g := mkF _ pc (cL α b L) (cV α b (st))) h hx rfl (hb hc d) (cL_get h1) (storeC hl) r) g
theorem go_goto {o : Int} (d : decode (mB M) pc = .ok (.goto o, 3)) (hp : 0 ≤ (pc : Int) + o ∧ ((pc : Int) + o).toNat = pc') (g : Go P M pc' L (st) w out) : Go P M pc L (st) w out :=
  go_mv id (fun h hx hc α b r => XS.goto (g := mkF _ pc (cL α b L) (cV α b (st))) h hx rfl rfl (hb hc d) hp.1 hp.2 r) g
theorem go_ifY {cd : ClassFile.Cond} {o : Int} (d : decode (mB M) pc = .ok (.ifCond cd o, 3)) (hq : ifCond.holds cd x = true) (hp : 0 ≤ (pc : Int) + o ∧ ((pc : Int) + o).toNat = pc') (g : Go P M pc' L (st) w out) : Go P M pc L (.int x :: st) w out :=
  go_mv id (fun h hx hc α b r => XS.ifYes (g := mkF _ pc (cL α b L) (cV α b (.int x :: st))) h hx rfl rfl (hb hc d) rfl hq hp.1 hp.2 r) g
theorem go_ifN {cd : ClassFile.Cond} {o : Int} (d : decode (mB M) pc = .ok (.ifCond cd o, 3)) (hq : ifCond.holds cd x = false) (g : Go P M (pc + 3) L (st) w out) : Go P M pc L (.int x :: st) w out :=
  go_mv id (fun h hx hc α b r => XS.ifNo (g := mkF _ pc (cL α b L) (cV α b (.int x :: st))) h hx rfl (hb hc d) rfl hq r) g
theorem go_icY {cd : ClassFile.Cond} {o : Int} (d : decode (mB M) pc = .ok (.if_icmp cd o, 3)) (hq : if_icmp.holds cd x y = true) (hp : 0 ≤ (pc : Int) + o ∧ ((pc : Int) + o).toNat = pc') (g : Go P M pc' L (st) w out) : Go P M pc L (.int y :: .int x :: st) w out :=
  go_mv id (fun h hx hc α b r => XS.icmpYes (g := mkF _ pc (cL α b L) (cV α b (.int y :: .int x :: st))) h hx rfl rfl (hb hc d) rfl hq hp.1 hp.2 r) g
theorem go_icN {cd : ClassFile.Cond} {o : Int} (d : decode (mB M) pc = .ok (.if_icmp cd o, 3)) (hq : if_icmp.holds cd x y = false) (g : Go P M (pc + 3) L (st) w out) : Go P M pc L (.int y :: .int x :: st) w out :=
  go_mv id (fun h hx hc α b r => XS.icmpNo (g := mkF _ pc (cL α b L) (cV α b (.int y :: .int x :: st))) h hx rfl (hb hc d) rfl hq r) g
theorem go_nonnull {o : Int} (d : decode (mB M) pc = .ok (.ifnonnull o, 3)) (hp : 0 ≤ (pc : Int) + o ∧ ((pc : Int) + o).toNat = pc') (g : Go P M pc' L st w out) : Go P M pc L (.ref 0 :: st) w out :=
  go_mv id (fun h hx hc α b r => XT.ifnonnullYes (g := mkF _ pc (cL α b L) (cV α b (.ref 0 :: st))) (b := α) h hx rfl rfl (hb hc d) rfl hp.1 hp.2 r) g
theorem go_tswIn {dflt low high : Int} {offs : Array Int} {len : Nat} {o : Int} (d : decode (mB M) pc = .ok (.tableswitch dflt low high offs, len)) (hin : ¬ (x.toInt < low ∨ x.toInt > high)) (hoff : offs[(x.toInt - low).toNat]? = some o) (hp : 0 ≤ (pc : Int) + o ∧ ((pc : Int) + o).toNat = pc') (g : Go P M pc' L st w out) : Go P M pc L (.int x :: st) w out :=
  go_mv id (fun h hx hc α b r => XS.tswIn (g := mkF _ pc (cL α b L) (cV α b (.int x :: st))) h hx rfl rfl (hb hc d) rfl hin hoff hp.1 hp.2 r) g
theorem go_tswOut {dflt low high : Int} {offs : Array Int} {len : Nat} (d : decode (mB M) pc = .ok (.tableswitch dflt low high offs, len)) (hout : x.toInt < low ∨ x.toInt > high) (hp : 0 ≤ (pc : Int) + dflt ∧ ((pc : Int) + dflt).toNat = pc') (g : Go P M pc' L st w out) : Go P M pc L (.int x :: st) w out :=
  go_mv id (fun h hx hc α b r => XS.tswOut (g := mkF _ pc (cL α b L) (cV α b (.int x :: st))) h hx rfl rfl (hb hc d) rfl hout hp.1 hp.2 r) g
/-! ### constants of the pool -/
theorem go_ldc {k : Nat} (d : decode (mB M) pc = .ok (.ldc k, 2)) (hk : Jvm.Cond.constant (mY M).cls k v ∈ P.1) (g : Go P M (pc + 2) L (.int v :: st) w out) : Go P M pc L st w out :=
  go_ch (fun l Z a0 p e R s m args below meth c α b n0 h0 uC uS ok hl T locs cells slots I => ⟨T, locs, cells, slots, I, fun target r => Stand.ldcI (g := mkF m pc (cL α b L) (cV α b st)) I.1 ok.2.2.1 ok.2.2.2.2.1 (mvT ok.2.2.2.1 (ok.1 _ hk)) rfl (hb ok.2.2.2.2.2.1 d) r⟩) g
theorem go_ldcW {k : Nat} (d : decode (mB M) pc = .ok (.ldc_w k, 3)) (hk : Jvm.Cond.constant (mY M).cls k v ∈ P.1) (g : Go P M (pc + 3) L (.int v :: st) w out) : Go P M pc L st w out :=
  go_ch (fun l Z a0 p e R s m args below meth c α b n0 h0 uC uS ok hl T locs cells slots I => ⟨T, locs, cells, slots, I, fun target r => Stand.ldcWI (g := mkF m pc (cL α b L) (cV α b st)) I.1 ok.2.2.1 ok.2.2.2.2.1 (mvT ok.2.2.2.1 (ok.1 _ hk)) rfl (hb ok.2.2.2.2.2.1 d) r⟩) g
theorem go_ldc2 {k : Nat} (d : decode (mB M) pc = .ok (.ldc2_w k, 3)) (hk : Jvm.Cond.constantLong (mY M).cls k u ∈ P.1) (g : Go P M (pc + 3) L (.long u :: st) w out) : Go P M pc L st w out :=
  go_ch (fun l Z a0 p e R s m args below meth c α b n0 h0 uC uS ok hl T locs cells slots I => ⟨T, locs, cells, slots, I, fun target r => Stand.ldc2J (g := mkF m pc (cL α b L) (cV α b st)) I.1 ok.2.2.1 ok.2.2.2.2.1 (mvT ok.2.2.2.1 (ok.1 _ hk)) rfl (hb ok.2.2.2.2.2.1 d) r⟩) g
/-! ### returns -/
theorem go_iret (hT : mT M = some .int) (d : decode (mB M) pc = .ok (.ireturn, 1)) : Go P M pc L (.int x :: st) w (some (.int x), w) := by
  intro hl l Z a0 p e R s m args below meth c α b n0 h0 uC uS ok T locs cells slots I
  exact ⟨T, locs, cells, slots, I, fun fs hv => retOut I.1 ok.2.2.1 (t := .int) (ok.2.2.2.2.2.2.2.1.trans hT) rfl (Or.inl ⟨rfl, Or.inl rfl, x, rfl⟩) (hb ok.2.2.2.2.2.1 d) hv⟩
theorem go_zret (hT : mT M = some .boolean) (d : decode (mB M) pc = .ok (.ireturn, 1)) (hz : v = nar .boolean x) : Go P M pc L (.int x :: st) w (some (.int v), w) := by
  intro hl l Z a0 p e R s m args below meth c α b n0 h0 uC uS ok T locs cells slots I
  subst hz
  exact ⟨T, locs, cells, slots, I, fun fs hv => retN I.1 ok.2.2.1 (t := .boolean) (ok.2.2.2.2.2.2.2.1.trans hT) (Or.inl rfl) (hb ok.2.2.2.2.2.1 d) hv⟩
theorem go_lret (hT : mT M = some .long) (d : decode (mB M) pc = .ok (.lreturn, 1)) : Go P M pc L (.long u :: st) w (some (.long u), w) := by
  intro hl l Z a0 p e R s m args below meth c α b n0 h0 uC uS ok T locs cells slots I
  exact ⟨T, locs, cells, slots, I, fun fs hv => retOut I.1 ok.2.2.1 (t := .long) (ok.2.2.2.2.2.2.2.1.trans hT) rfl (Or.inr (Or.inl ⟨rfl, rfl, u, rfl⟩)) (hb ok.2.2.2.2.2.1 d) hv⟩
theorem go_ret (hT : mT M = none) (d : decode (mB M) pc = .ok (.return_, 1)) : Go P M pc L [] w (none, w) := by
  intro hl l Z a0 p e R s m args below meth c α b n0 h0 uC uS ok T locs cells slots I
  exact ⟨T, locs, cells, slots, I, fun fs hv => I.1.returnOut ok.2.2.1 (ok.2.2.2.2.2.2.2.1.trans hT) (hb ok.2.2.2.2.2.1 d) hv⟩
/-! ### fields -/
variable {o o' : Nat × S} {s : S} {k n : Nat}
theorem rep_one {Z : State} {ci : CI} {α b : Nat} {h : Heap} (F : RepW Z ci α b (none, [o]) h) : Rep1 Z ci h b o := by
  have := F.2 0 o rfl
  simpa using this
theorem rep_mk {Z : State} {ci : CI} {α b : Nat} {h : Heap} (F : Rep1 Z ci h b o) : RepW Z ci α b (none, [o]) h :=
  ⟨fun l hl => (nomatch hl), fun i o1 ho => by
    cases i with
    | zero => cases ho; simpa using F
    | succ i => simp at ho⟩
/-- the entry idx names the scalar field number f; of type ty -/
def FldS (P : PI) (idx f : Nat) (ty : FieldType) : Prop := ∃ nm ds, (cS P.2)[f]? = some (nm, ds, ty) ∧ Jvm.Cond.fieldLink (cN P.2) idx (cN P.2) nm ds ∈ P.1
def FldA (P : PI) (idx q : Nat) (ty : FieldType) : Prop := ∃ nm ds cap, (cA P.2)[q]? = some (nm, ds, ty, cap) ∧ Jvm.Cond.fieldLink (cN P.2) idx (cN P.2) nm ds ∈ P.1
theorem go_getV {idx f : Nat} {ty : FieldType} (F : FldS P idx f ty) (hM : (mY M).cls = cN P.2) (d : decode (mB M) pc = .ok (.getfield idx, 3)) {vv : Value} (hv : vv = scV ty s f) (hr : ∀ α b, con α b vv = vv) (g : Go P M (pc + 3) L (vv :: st) (none, [(k, s)]) out) : Go P M pc L (.ref 1 :: st) (none, [(k, s)]) out :=
  go_ch (fun l Z a0 p e R s1 m args below meth c α b n0 h0 uC uS ok hl T locs cells slots I => by
    obtain ⟨nm, ds, f1, f2⟩ := F
    obtain ⟨hw, fa, hx, hZ, hown, hc, hml, hret, hnm, hR, hn0, htop, hsz⟩ := ok
    obtain ⟨X, Rp, Fm, Nl, hs, u1, u2, c1, c2, hN⟩ := I
    have Fd := (rep_one Rp).2.1 f _ f1
    rw [hM] at hown
    obtain ⟨T', X', e', stp⟩ := getF X hx hZ hown (host := "") (Or.inl (hw _ f2)) Via.refl rfl Fd (g := mkF m pc (cL α b L) (cV α b (.ref 1 :: st))) rfl rfl (hb hc d)
    refine ⟨T', locs, cells, slots, ⟨X', by rw [e']; exact Rp, by rw [e']; exact Fm, Nl, by rw [e']; exact hs, u1, u2, c1, c2, hN⟩, fun target r => stp target ?_⟩
    rw [show cV α b (vv :: st) = con α b vv :: cV α b st from rfl, hr, hv] at r
    exact r) g
theorem go_getI {idx f : Nat} (F : FldS P idx f .int) (hM : (mY M).cls = cN P.2) (d : decode (mB M) pc = .ok (.getfield idx, 3)) (g : Go P M (pc + 3) L (.int (gI s f) :: st) (none, [(k, s)]) out) : Go P M pc L (.ref 1 :: st) (none, [(k, s)]) out :=
  go_getV F hM d rfl (fun _ _ => rfl) g
theorem go_getZ {idx f : Nat} (F : FldS P idx f .boolean) (hM : (mY M).cls = cN P.2) (d : decode (mB M) pc = .ok (.getfield idx, 3)) (g : Go P M (pc + 3) L (.int (gI s f) :: st) (none, [(k, s)]) out) : Go P M pc L (.ref 1 :: st) (none, [(k, s)]) out :=
  go_getV F hM d rfl (fun _ _ => rfl) g
theorem go_getJ {idx f : Nat} (F : FldS P idx f .long) (hM : (mY M).cls = cN P.2) (d : decode (mB M) pc = .ok (.getfield idx, 3)) (g : Go P M (pc + 3) L (.long (gL s f) :: st) (none, [(k, s)]) out) : Go P M pc L (.ref 1 :: st) (none, [(k, s)]) out :=
  go_getV F hM d rfl (fun _ _ => rfl) g
theorem go_getA {idx q : Nat} {ty : FieldType} (F : FldA P idx q ty) (hM : (mY M).cls = cN P.2) (d : decode (mB M) pc = .ok (.getfield idx, 3)) (hq : Nat.blt q k = true) (g : Go P M (pc + 3) L (.ref (q + 2) :: st) (none, [(k, s)]) out) : Go P M pc L (.ref 1 :: st) (none, [(k, s)]) out :=
  go_ch (fun l Z a0 p e R s1 m args below meth c α b n0 h0 uC uS ok hl T locs cells slots I => by
    obtain ⟨nm, ds, cap, f1, f2⟩ := F
    obtain ⟨hw, fa, hx, hZ, hown, hc, hml, hret, hnm, hR, hn0, htop, hsz⟩ := ok
    obtain ⟨X, Rp, Fm, Nl, hs, u1, u2, c1, c2, hN⟩ := I
    have Fd := (rep_one Rp).2.2.1 q _ f1
    rw [if_pos (show q < (k, s).1 by simpa [Nat.blt_eq] using hq)] at Fd
    rw [hM] at hown
    obtain ⟨T', X', e', stp⟩ := getF X hx hZ hown (host := "") (Or.inl (hw _ f2)) Via.refl rfl Fd (g := mkF m pc (cL α b L) (cV α b (.ref 1 :: st))) rfl rfl (hb hc d)
    refine ⟨T', locs, cells, slots, ⟨X', by rw [e']; exact Rp, by rw [e']; exact Fm, Nl, by rw [e']; exact hs, u1, u2, c1, c2, hN⟩, fun target r => stp target ?_⟩
    rw [show cV α b (.ref (q + 2) :: st) = .ref (b + (q + 1)) :: cV α b st from rfl] at r
    rw [show b + 1 + q = b + (q + 1) by omega]
    exact r) g
/-- another scalar of the object takes its value -/
theorem rep_put {Z : State} {a0 : Array Value} {ci : CI} {h h' : Heap} {b : Nat} {s s' : S} {k f : Nat} {nm ds : String} {ty : FieldType} {vv : Value} (fa : Facts Z a0 ci) (F : Rep1 Z ci h b (k, s)) (hf : (cS ci)[f]? = some (nm, ds, ty))
    (Wt : Wr h h' b (Jvm.RoadKit.slotOf Z (cN ci) nm ds) vv) (hv : vv = scV ty s' f) (ho : ∀ f' x, (cS ci)[f']? = some x → f' ≠ f → scV x.2.2 s' f' = scV x.2.2 s f') (ha : gA s' = gA s) (hbb : gB s' = gB s) : Rep1 Z ci h' b (k, s') := by
  obtain ⟨f1, f2, f3, f4⟩ := F
  obtain ⟨-, -, g1, g2, g3, -⟩ := fa
  have lt := get_lt hf
  refine ⟨f1.wr Wt, fun f' x hx => ?_, fun q x hx => ?_, fun q x hx hq => ?_⟩
  · by_cases e : f' = f
    · subst e
      cases hf.symm.trans hx
      show Fld Z h' b (cN ci) nm ds (scV ty s' f')
      rw [← hv]; exact (f2 f' _ hf).same Wt
    · have lt' := get_lt hx
      show Fld Z h' b (cN ci) x.1 x.2.1 (scV x.2.2 s' f')
      rw [ho f' x hx e]
      refine (f2 f' x hx).other Wt (Or.inr ?_)
      refine slot_ne (g1 f' x hx).1 (g1 f _ hf).1 ?_ (g1 f' x hx).2 (g1 f _ hf).2
      intro en
      have n1 : ((cS ci).map (fun x => x.1) ++ (cA ci).map (fun x => x.1))[f']? = some x.1 := by rw [List.getElem?_append_left (by simpa using lt')]; simp [hx]
      have n2 : ((cS ci).map (fun x => x.1) ++ (cA ci).map (fun x => x.1))[f]? = some nm := by rw [List.getElem?_append_left (by simpa using lt)]; simp [hf]
      rw [en] at n1
      obtain ⟨i1, j1⟩ := List.getElem?_eq_some_iff.mp n1
      obtain ⟨i2, j2⟩ := List.getElem?_eq_some_iff.mp n2
      exact e ((List.getElem_inj g3).mp (j1.trans j2.symm))
  · refine (f3 q x hx).other Wt (Or.inr ?_)
    have lt' := get_lt hx
    refine slot_ne (g2 q x hx).1 (g1 f _ hf).1 ?_ (g2 q x hx).2 (g1 f _ hf).2
    intro en
    have n1 : ((cS ci).map (fun x => x.1) ++ (cA ci).map (fun x => x.1))[(cS ci).length + q]? = some x.1 := by rw [List.getElem?_append_right (by simp)]; simp [hx]
    have n2 : ((cS ci).map (fun x => x.1) ++ (cA ci).map (fun x => x.1))[f]? = some nm := by rw [List.getElem?_append_left (by simpa using lt)]; simp [hf]
    rw [en] at n1
    obtain ⟨i1, j1⟩ := List.getElem?_eq_some_iff.mp n1
    obtain ⟨i2, j2⟩ := List.getElem?_eq_some_iff.mp n2
    have := (List.getElem_inj g3).mp (j1.trans j2.symm)
    omega
  · obtain ⟨c, A, e⟩ := f4 q x hx hq
    refine ⟨c, A.other Wt (nq (by omega)), e.trans ?_⟩
    show (arV x.2.2.1 s q).toArray = (arV x.2.2.1 s' q).toArray
    unfold arV
    split <;> simp [ha, hbb]
theorem go_putV {idx f : Nat} {ty : FieldType} {vv : Value} {s' : S} (F : FldS P idx f ty) (hM : (mY M).cls = cN P.2)
    (hlays : ∀ nm ds, (cS P.2)[f]? = some (nm, ds, ty) → Jvm.Cond.lays (cN P.2) (cN P.2) nm ds ∈ P.1 ∨ (Jvm.Cond.laysFinal (cN P.2) (cN P.2) nm ds ∈ P.1 ∧ (mY M).name = "<init>"))
    (hpos : 0 < mN M) (hr : ∀ α b, con α b vv = vv) (hn : narrow ty vv = vv) (hfi : fits ty vv = true) (hv : vv = scV ty s' f) (ho : ∀ f' x, (cS P.2)[f']? = some x → f' ≠ f → scV x.2.2 s' f' = scV x.2.2 s f') (ha : gA s' = gA s) (hbb : gB s' = gB s)
    (d : decode (mB M) pc = .ok (.putfield idx, 3)) (g : Go P M (pc + 3) L st (none, [(k, s')]) out) : Go P M pc L (vv :: .ref 1 :: st) (none, [(k, s)]) out :=
  go_ch (fun l Z a0 p e R s1 m args below meth c α b n0 h0 uC uS ok hl T locs cells slots I => by
    obtain ⟨nm, ds, f1, f2⟩ := F
    obtain ⟨hw, fa, hx, hZ, hown, hc, hml, hret, hnm, hR, hn0, htop, hsz⟩ := ok
    obtain ⟨X, Rp, Fm, Nl, hs, u1, u2, c1, c2, hN⟩ := I
    have Rp1 := rep_one Rp
    have Fd := Rp1.2.1 f _ f1
    rw [hM] at hown
    obtain ⟨T', h', X', e', Wt, stp⟩ := putF X hx hZ hown (host := "") (Or.inl (hw _ f2)) Via.refl rfl Fd Rp1.1 ((hlays nm ds f1).imp (fun q => hw _ q) (fun q => ⟨hw _ q.1, rfl, hnm.trans q.2⟩)) fa.1 (fa.2.2.1 f _ f1).2 hn hfi (g := mkF m pc (cL α b L) (vv :: .ref b :: cV α b st)) rfl rfl (hb hc d)
    refine ⟨T', _, cells, slots, ⟨X', rep_mk (by rw [e']; exact rep_put fa Rp1 f1 Wt hv ho ha hbb), by rw [e']; exact Fm.wr Wt (Nat.le_refl _) (by have := Nat.mul_le_mul_left (cK P.2 + 1) hpos; omega), Fr.snoc X' Nl hn0, by rw [e', Wt.size]; exact hs, u1, u2, c1, c2, hN⟩, fun target r => ?_⟩
    rw [show cV α b (vv :: .ref 1 :: st) = con α b vv :: .ref b :: cV α b st from rfl, hr]
    exact stp target r) g
theorem scV_sI (s : S) (f : Nat) (x : Int32) (ty : FieldType) (f' : Nat) (h : f' ≠ f) : scV ty (sI s f x) f' = scV ty s f' := by
  unfold scV; split <;> simp [gI_sI, gL_sI, h]
theorem scV_sL (s : S) (f : Nat) (x : Int64) (ty : FieldType) (f' : Nat) (h : f' ≠ f) : scV ty (sL s f x) f' = scV ty s f' := by
  unfold scV; split <;> simp [gI_sL, gL_sL, h]
/-- the word that lets the field be written -/
def Wrt (P : PI) (M : Meth) (f : Nat) : Prop := ∃ nm ds ty, (cS P.2)[f]? = some (nm, ds, ty) ∧ (Jvm.Cond.lays (cN P.2) (cN P.2) nm ds ∈ P.1 ∨ (Jvm.Cond.laysFinal (cN P.2) (cN P.2) nm ds ∈ P.1 ∧ (mY M).name = "<init>"))
theorem Wrt.use {f : Nat} {ty : FieldType} (h : Wrt P M f) : ∀ nm ds, (cS P.2)[f]? = some (nm, ds, ty) → Jvm.Cond.lays (cN P.2) (cN P.2) nm ds ∈ P.1 ∨ (Jvm.Cond.laysFinal (cN P.2) (cN P.2) nm ds ∈ P.1 ∧ (mY M).name = "<init>") := by
  obtain ⟨nm, ds, ty', h1, h2⟩ := h
  intro nm' ds' h3
  cases h1.symm.trans h3
  exact h2
theorem go_putI {idx f : Nat} (F : FldS P idx f .int) (hM : (mY M).cls = cN P.2) (hl : Wrt P M f) (hp : 0 < mN M) (d : decode (mB M) pc = .ok (.putfield idx, 3)) (g : Go P M (pc + 3) L st (none, [(k, sI s f x)]) out) : Go P M pc L (.int x :: .ref 1 :: st) (none, [(k, s)]) out :=
  go_putV F hM hl.use hp (fun _ _ => rfl) rfl rfl (by simp [scV, gI_sI]) (fun f' y _ h => scV_sI s f x _ f' h) rfl rfl d g
theorem go_putZ {idx f : Nat} (F : FldS P idx f .boolean) (hM : (mY M).cls = cN P.2) (hl : Wrt P M f) (hp : 0 < mN M) (hz : x = 0 ∨ x = 1) (d : decode (mB M) pc = .ok (.putfield idx, 3)) (g : Go P M (pc + 3) L st (none, [(k, sI s f x)]) out) : Go P M pc L (.int x :: .ref 1 :: st) (none, [(k, s)]) out :=
  go_putV F hM hl.use hp (fun _ _ => rfl) (by rcases hz with rfl | rfl <;> rfl) (by rcases hz with rfl | rfl <;> rfl) (by simp [scV, gI_sI]) (fun f' y _ h => scV_sI s f x _ f' h) rfl rfl d g
theorem go_putJ {idx f : Nat} (F : FldS P idx f .long) (hM : (mY M).cls = cN P.2) (hl : Wrt P M f) (hp : 0 < mN M) (d : decode (mB M) pc = .ok (.putfield idx, 3)) (g : Go P M (pc + 3) L st (none, [(k, sL s f u)]) out) : Go P M pc L (.long u :: .ref 1 :: st) (none, [(k, s)]) out :=
  go_putV F hM hl.use hp (fun _ _ => rfl) rfl rfl (by simp [scV, gL_sL]) (fun f' y _ h => scV_sL s f u _ f' h) rfl rfl d g
/-! ### arrays -/
theorem ix_some {A : Type} {l : List A} {j : Int32} {x : A} (h : ix l j = some x) : ¬ j < 0 ∧ l[j.toNatClampNeg]? = some x := by
  unfold ix at h; split at h
  · cases h
  · rename_i q; exact ⟨q, h⟩
theorem st_some {A : Type} {l l' : List A} {j : Int32} {x : A} (h : Jvm.AM.st l j x = some l') : ¬ j < 0 ∧ j.toNatClampNeg < l.length ∧ l' = l.set j.toNatClampNeg x := by
  unfold Jvm.AM.st at h; split at h
  · cases h
  · rename_i q; split at h
    · rename_i q2; cases h; exact ⟨q, q2, rfl⟩
    · cases h
theorem ar_in {c : Cell} {vs : List Value} {j : Int32} {vv : Value} (e : c.slots = vs.toArray) (h1 : ¬ j < 0) (h2 : vs[j.toNatClampNeg]? = some vv) : ¬ (j < 0 ∨ c.slots.size ≤ j.toNatClampNeg) ∧ c.slots[j.toNatClampNeg]? = some vv := by
  have := get_lt h2
  refine ⟨fun q => ?_, by rw [e]; simpa using h2⟩
  rcases q with q | q
  · exact h1 q
  · rw [e] at q; simp at q; omega
theorem go_iaload {q : Nat} {j : Int32} {nm ds : String} {cap : Nat} (ha : (cA P.2)[q]? = some (nm, ds, .int, cap)) (hq : Nat.blt q k = true) (hx : ix (gA s q) j = some v) (d : decode (mB M) pc = .ok (.iaload, 1)) (g : Go P M (pc + 1) L (.int v :: st) (none, [(k, s)]) out) : Go P M pc L (.int j :: .ref (q + 2) :: st) (none, [(k, s)]) out :=
  go_ch (fun l Z a0 p e R s1 m args below meth c α b n0 h0 uC uS ok hl T locs cells slots I => by
    obtain ⟨cl, A, ec⟩ := (rep_one I.2.1).2.2.2 q _ ha (by simpa [Nat.blt_eq] using hq)
    obtain ⟨h1, h2⟩ := ix_some hx
    obtain ⟨h3, h4⟩ := ar_in ec h1 (vv := .int v) (by simp [arV, h2])
    refine ⟨T, locs, cells, slots, I, fun target r => ?_⟩
    refine I.1.iaload ok.2.2.1 (j := j) (v := .int v) A.1 (State.isArrayOf_alike ok.2.2.2.1.alike A.2.1) A.2.2 h3 h4 (g := mkF m pc (cL α b L) (.int j :: .ref (b + 1 + q) :: cV α b st)) rfl rfl (hb ok.2.2.2.2.2.1 d) _ r |> fun t => ?_
    rw [show cV α b (.int j :: .ref (q + 2) :: st) = .int j :: .ref (b + (q + 1)) :: cV α b st from rfl, show b + (q + 1) = b + 1 + q by omega]
    exact t) g
theorem go_laload {q : Nat} {j : Int32} {nm ds : String} {cap : Nat} (ha : (cA P.2)[q]? = some (nm, ds, .long, cap)) (hq : Nat.blt q k = true) (hx : ix (gB s q) j = some u) (d : decode (mB M) pc = .ok (.laload, 1)) (g : Go P M (pc + 1) L (.long u :: st) (none, [(k, s)]) out) : Go P M pc L (.int j :: .ref (q + 2) :: st) (none, [(k, s)]) out :=
  go_ch (fun l Z a0 p e R s1 m args below meth c α b n0 h0 uC uS ok hl T locs cells slots I => by
    obtain ⟨cl, A, ec⟩ := (rep_one I.2.1).2.2.2 q _ ha (by simpa [Nat.blt_eq] using hq)
    obtain ⟨h1, h2⟩ := ix_some hx
    obtain ⟨h3, h4⟩ := ar_in ec h1 (vv := .long u) (by simp [arV, h2])
    refine ⟨T, locs, cells, slots, I, fun target r => ?_⟩
    refine I.1.laload ok.2.2.1 (j := j) (v := .long u) A.1 (State.isArrayOf_alike ok.2.2.2.1.alike A.2.1) A.2.2 h3 h4 (g := mkF m pc (cL α b L) (.int j :: .ref (b + 1 + q) :: cV α b st)) rfl rfl (hb ok.2.2.2.2.2.1 d) _ r |> fun t => ?_
    rw [show cV α b (.int j :: .ref (q + 2) :: st) = .int j :: .ref (b + (q + 1)) :: cV α b st from rfl, show b + (q + 1) = b + 1 + q by omega]
    exact t) g
theorem go_baload {q : Nat} {j : Int32} {nm ds : String} {ty : FieldType} {cap : Nat} (ha : (cA P.2)[q]? = some (nm, ds, ty, cap)) (hty : ty = .boolean ∨ ty = .byte) (hq : Nat.blt q k = true) (hx : ix (gA s q) j = some v) (d : decode (mB M) pc = .ok (.baload, 1)) (g : Go P M (pc + 1) L (.int v :: st) (none, [(k, s)]) out) : Go P M pc L (.int j :: .ref (q + 2) :: st) (none, [(k, s)]) out :=
  go_ch (fun l Z a0 p e R s1 m args below meth c α b n0 h0 uC uS ok hl T locs cells slots I => by
    obtain ⟨cl, A, ec⟩ := (rep_one I.2.1).2.2.2 q _ ha (by simpa [Nat.blt_eq] using hq)
    obtain ⟨h1, h2⟩ := ix_some hx
    refine ⟨T, locs, cells, slots, I, fun target r => ?_⟩
    rw [show cV α b (.int j :: .ref (q + 2) :: st) = .int j :: .ref (b + (q + 1)) :: cV α b st from rfl, show b + (q + 1) = b + 1 + q by omega]
    rcases hty with rfl | rfl
    · obtain ⟨h3, h4⟩ := ar_in ec h1 (vv := .int v) (by simp [arV, h2])
      exact I.1.baloadBooleans ok.2.2.1 (j := j) (v := .int v) A.1 (State.isArrayOf_alike ok.2.2.2.1.alike A.2.1) A.2.2 h3 h4 (g := mkF m pc (cL α b L) (.int j :: .ref (b + 1 + q) :: cV α b st)) rfl rfl (hb ok.2.2.2.2.2.1 d) _ r
    · obtain ⟨h3, h4⟩ := ar_in ec h1 (vv := .int v) (by simp [arV, h2])
      exact I.1.baloadBytes ok.2.2.1 (j := j) (v := .int v) A.1 (State.isArrayOf_alike ok.2.2.2.1.alike A.2.1) A.2.2 h3 h4 (g := mkF m pc (cL α b L) (.int j :: .ref (b + 1 + q) :: cV α b st)) rfl rfl (hb ok.2.2.2.2.2.1 d) _ r) g
theorem go_alen {q : Nat} {nm ds : String} {ty : FieldType} {cap : Nat} (ha : (cA P.2)[q]? = some (nm, ds, ty, cap)) (hty : ty ≠ .long) (hq : Nat.blt q k = true) (d : decode (mB M) pc = .ok (.arraylength, 1)) (g : Go P M (pc + 1) L (.int (gA s q).length.toInt32 :: st) (none, [(k, s)]) out) : Go P M pc L (.ref (q + 2) :: st) (none, [(k, s)]) out :=
  go_ch (fun l Z a0 p e R s1 m args below meth c α b n0 h0 uC uS ok hl T locs cells slots I => by
    obtain ⟨cl, A, ec⟩ := (rep_one I.2.1).2.2.2 q _ ha (by simpa [Nat.blt_eq] using hq)
    refine ⟨T, locs, cells, slots, I, fun target r => ?_⟩
    have e1 : cl.slots.size = (gA s q).length := by rw [ec]; cases ty <;> simp [arV] at hty ⊢
    rw [show cV α b (.ref (q + 2) :: st) = .ref (b + (q + 1)) :: cV α b st from rfl, show b + (q + 1) = b + 1 + q by omega]
    refine I.1.arraylength ok.2.2.1 (cell := cl) A.1 (State.isArrayOf_alike ok.2.2.2.1.alike A.2.1) (g := mkF m pc (cL α b L) (.ref (b + 1 + q) :: cV α b st)) rfl rfl (hb ok.2.2.2.2.2.1 d) _ ?_
    rw [e1]; exact r) g
theorem go_sload {l0 : List Int32} {os : List (Nat × S)} {j : Int32} (hx : ix l0 j = some v) (d : decode (mB M) pc = .ok (.iaload, 1)) (g : Go P M (pc + 1) L (.int v :: st) (some l0, os) out) : Go P M pc L (.int j :: .ref 0 :: st) (some l0, os) out :=
  go_ch (fun l Z a0 p e R s1 m args below meth c α b n0 h0 uC uS ok hl T locs cells slots I => by
    obtain ⟨cl, A, ec⟩ := (I.2.1.1 l0 rfl).1
    obtain ⟨h1, h2⟩ := ix_some hx
    obtain ⟨h3, h4⟩ := ar_in ec h1 (vv := .int v) (by simp [h2])
    exact ⟨T, locs, cells, slots, I, fun target r => I.1.iaload ok.2.2.1 (j := j) (v := .int v) A.1 (State.isArrayOf_alike ok.2.2.2.1.alike A.2.1) A.2.2 h3 h4 (g := mkF m pc (cL α b L) (cV α b (.int j :: .ref 0 :: st))) rfl rfl (hb ok.2.2.2.2.2.1 d) _ r⟩) g
theorem go_slen {l0 : List Int32} {os : List (Nat × S)} (d : decode (mB M) pc = .ok (.arraylength, 1)) (g : Go P M (pc + 1) L (.int l0.length.toInt32 :: st) (some l0, os) out) : Go P M pc L (.ref 0 :: st) (some l0, os) out :=
  go_ch (fun l Z a0 p e R s1 m args below meth c α b n0 h0 uC uS ok hl T locs cells slots I => by
    obtain ⟨cl, A, ec⟩ := (I.2.1.1 l0 rfl).1
    refine ⟨T, locs, cells, slots, I, fun target r => ?_⟩
    have e1 : cl.slots.size = l0.length := by rw [ec]; simp
    refine I.1.arraylength ok.2.2.1 (cell := cl) A.1 (State.isArrayOf_alike ok.2.2.2.1.alike A.2.1) (g := mkF m pc (cL α b L) (cV α b (.ref 0 :: st))) rfl rfl (hb ok.2.2.2.2.2.1 d) _ ?_
    rw [e1]; exact r) g
/-- a component of an array of the object takes its value -/
theorem rep_store {Z : State} {ci : CI} {h h' : Heap} {b : Nat} {s s' : S} {k q i : Nat} {nm ds : String} {ty : FieldType} {cap : Nat} {vv : Value} (F : Rep1 Z ci h b (k, s)) (hf : (cA ci)[q]? = some (nm, ds, ty, cap)) (hq : q < k)
    (Wt : Wr h h' (b + 1 + q) i vv) (hi : i < (arV ty s q).length) (hv : arV ty s' q = (arV ty s q).set i vv) (ho : ∀ q' x, (cA ci)[q']? = some x → q' ≠ q → arV x.2.2.1 s' q' = arV x.2.2.1 s q') (ha : gI s' = gI s) (hbb : gL s' = gL s) : Rep1 Z ci h' b (k, s') := by
  obtain ⟨f1, f2, f3, f4⟩ := F
  refine ⟨f1.wr Wt, fun f x hx => ?_, fun q' x hx => (f3 q' x hx).other Wt (Or.inl (nq (by omega))), fun q' x hx hq' => ?_⟩
  · have e : scV x.2.2 s' f = scV x.2.2 s f := by unfold scV; split <;> simp [ha, hbb]
    show Fld Z h' b (cN ci) x.1 x.2.1 (scV x.2.2 s' f)
    rw [e]
    exact (f2 f x hx).other Wt (Or.inl (nq (by omega)))
  · by_cases e : q' = q
    · subst e
      cases hf.symm.trans hx
      obtain ⟨c, A, ec⟩ := f4 q' _ hf hq
      refine ⟨_, A.same Wt, ?_⟩
      show (c.setSlot i vv).slots = (arV ty s' q').toArray
      rw [hv]
      simp only [Cell.setSlot, ec]
      simp
    · obtain ⟨c, A, ec⟩ := f4 q' x hx hq'
      refine ⟨c, A.other Wt (nq (by omega)), ec.trans ?_⟩
      rw [ho q' x hx e]
theorem arV_sA (s : S) (q : Nat) (l : List Int32) (ty : FieldType) (q' : Nat) (h : q' ≠ q) : arV ty (sA s q l) q' = arV ty s q' := by
  unfold arV; split <;> simp [gA_sA, gB_sA, h]
theorem arV_sB (s : S) (q : Nat) (l : List Int64) (ty : FieldType) (q' : Nat) (h : q' ≠ q) : arV ty (sB s q l) q' = arV ty s q' := by
  unfold arV; split <;> simp [gA_sB, gB_sB, h]
theorem in_of {c : Cell} {vs : List Value} {j : Int32} (e : c.slots = vs.toArray) (h1 : ¬ j < 0) (h2 : j.toNatClampNeg < vs.length) : ¬ (j < 0 ∨ c.slots.size ≤ j.toNatClampNeg) := fun q => by
  rcases q with q | q
  · exact h1 q
  · rw [e] at q; simp at q; omega
theorem go_iastore {q : Nat} {j : Int32} {nm ds : String} {cap : Nat} {l' : List Int32} (ha : (cA P.2)[q]? = some (nm, ds, .int, cap)) (hq : Nat.blt q k = true) (hp : 0 < mN M) (hx : Jvm.AM.st (gA s q) j x = some l') (d : decode (mB M) pc = .ok (.iastore, 1)) (g : Go P M (pc + 1) L st (none, [(k, sA s q l')]) out) : Go P M pc L (.int x :: .int j :: .ref (q + 2) :: st) (none, [(k, s)]) out :=
  go_ch (fun l Z a0 p e R s1 m args below meth c α b n0 h0 uC uS ok hl T locs cells slots I => by
    have hq' : q < k := by simpa [Nat.blt_eq] using hq
    have hqK := get_lt ha
    obtain ⟨X, Rp, Fm, Nl, hs, u1, u2, c1, c2, hN⟩ := I
    obtain ⟨cl, A, ec⟩ := (rep_one Rp).2.2.2 q _ ha hq'
    obtain ⟨h1, h2, rfl⟩ := st_some hx
    have hin := in_of ec h1 (by simpa [arV] using h2)
    obtain ⟨T', h', X', e', Wt, stp⟩ := stI X ok.2.2.1 ok.2.2.2.1 rfl A (x := x) hin (g := mkF m pc (cL α b L) (.int x :: .int j :: .ref (b + 1 + q) :: cV α b st)) rfl rfl (hb ok.2.2.2.2.2.1 d)
    refine ⟨T', _, cells, slots, ⟨X', rep_mk (by rw [e']; exact rep_store (rep_one Rp) ha hq' Wt (by simpa [arV] using h2) (by simp [arV, gA_sA, List.map_set]) (fun q' y _ h => arV_sA s q _ _ q' h) rfl rfl), by rw [e']; exact Fm.wr Wt (by omega) (by have := Nat.mul_le_mul_left (cK P.2 + 1) hp; simp only [cK] at *; omega), Fr.snoc X' Nl (by have := ok.2.2.2.2.2.2.2.2.2.2.1; omega), by rw [e', Wt.size]; exact hs, u1, u2, c1, c2, hN⟩, fun target r => ?_⟩
    rw [show cV α b (.int x :: .int j :: .ref (q + 2) :: st) = .int x :: .int j :: .ref (b + (q + 1)) :: cV α b st from rfl, show b + (q + 1) = b + 1 + q by omega]
    exact stp target r) g
theorem go_lastore {q : Nat} {j : Int32} {nm ds : String} {cap : Nat} {l' : List Int64} (ha : (cA P.2)[q]? = some (nm, ds, .long, cap)) (hq : Nat.blt q k = true) (hp : 0 < mN M) (hx : Jvm.AM.st (gB s q) j u = some l') (d : decode (mB M) pc = .ok (.lastore, 1)) (g : Go P M (pc + 1) L st (none, [(k, sB s q l')]) out) : Go P M pc L (.long u :: .int j :: .ref (q + 2) :: st) (none, [(k, s)]) out :=
  go_ch (fun l Z a0 p e R s1 m args below meth c α b n0 h0 uC uS ok hl T locs cells slots I => by
    have hq' : q < k := by simpa [Nat.blt_eq] using hq
    have hqK := get_lt ha
    obtain ⟨X, Rp, Fm, Nl, hs, u1, u2, c1, c2, hN⟩ := I
    obtain ⟨cl, A, ec⟩ := (rep_one Rp).2.2.2 q _ ha hq'
    obtain ⟨h1, h2, rfl⟩ := st_some hx
    have hin := in_of ec h1 (by simpa [arV] using h2)
    obtain ⟨T', h', X', e', Wt, stp⟩ := stJ X ok.2.2.1 ok.2.2.2.1 rfl A (x := u) hin (g := mkF m pc (cL α b L) (.long u :: .int j :: .ref (b + 1 + q) :: cV α b st)) rfl rfl (hb ok.2.2.2.2.2.1 d)
    refine ⟨T', _, cells, slots, ⟨X', rep_mk (by rw [e']; exact rep_store (rep_one Rp) ha hq' Wt (by simpa [arV] using h2) (by simp [arV, gB_sB, List.map_set]) (fun q' y _ h => arV_sB s q _ _ q' h) rfl rfl), by rw [e']; exact Fm.wr Wt (by omega) (by have := Nat.mul_le_mul_left (cK P.2 + 1) hp; simp only [cK] at *; omega), Fr.snoc X' Nl (by have := ok.2.2.2.2.2.2.2.2.2.2.1; omega), by rw [e', Wt.size]; exact hs, u1, u2, c1, c2, hN⟩, fun target r => ?_⟩
    rw [show cV α b (.long u :: .int j :: .ref (q + 2) :: st) = .long u :: .int j :: .ref (b + (q + 1)) :: cV α b st from rfl, show b + (q + 1) = b + 1 + q by omega]
    exact stp target r) g
theorem go_bastore {q : Nat} {j : Int32} {nm ds : String} {ty : FieldType} {cap : Nat} {l' : List Int32} (ha : (cA P.2)[q]? = some (nm, ds, ty, cap)) (hty : ty = .boolean ∨ ty = .byte) (hq : Nat.blt q k = true) (hp : 0 < mN M) (hv : v = nar ty x) (hx : Jvm.AM.st (gA s q) j v = some l') (d : decode (mB M) pc = .ok (.bastore, 1)) (g : Go P M (pc + 1) L st (none, [(k, sA s q l')]) out) : Go P M pc L (.int x :: .int j :: .ref (q + 2) :: st) (none, [(k, s)]) out :=
  go_ch (fun l Z a0 p e R s1 m args below meth c α b n0 h0 uC uS ok hl T locs cells slots I => by
    have hq' : q < k := by simpa [Nat.blt_eq] using hq
    have hqK := get_lt ha
    obtain ⟨X, Rp, Fm, Nl, hs, u1, u2, c1, c2, hN⟩ := I
    obtain ⟨cl, A, ec⟩ := (rep_one Rp).2.2.2 q _ ha hq'
    obtain ⟨h1, h2, rfl⟩ := st_some hx
    subst hv
    have hlen : j.toNatClampNeg < (arV ty s q).length := by rcases hty with rfl | rfl <;> simpa [arV] using h2
    have hset : arV ty (sA s q ((gA s q).set j.toNatClampNeg (nar ty x))) q = (arV ty s q).set j.toNatClampNeg (.int (nar ty x)) := by rcases hty with rfl | rfl <;> simp [arV, gA_sA, List.map_set]
    have hin := in_of ec h1 hlen
    obtain ⟨T', h', X', e', Wt, stp⟩ : ∃ T' h', Stand p l e R s1 m args below meth c T' (locs ++ [⟨b + 1 + q, j.toNatClampNeg⟩]) cells slots ∧ T'.heap = h' ∧ Wr T.heap h' (b + 1 + q) j.toNatClampNeg (.int (nar ty x)) ∧ ∀ target, Steps p.tables e below (T'.setTop (mkF m (pc + 1) (cL α b L) (cV α b st))) target → Steps p.tables e below (T.setTop (mkF m pc (cL α b L) (.int x :: .int j :: .ref (b + 1 + q) :: cV α b st))) target := by
      rcases hty with rfl | rfl
      · exact stZ X ok.2.2.1 ok.2.2.2.1 rfl A (x := x) hin (g := mkF m pc (cL α b L) (.int x :: .int j :: .ref (b + 1 + q) :: cV α b st)) rfl rfl (hb ok.2.2.2.2.2.1 d)
      · exact stB X ok.2.2.1 ok.2.2.2.1 rfl A (x := x) hin (g := mkF m pc (cL α b L) (.int x :: .int j :: .ref (b + 1 + q) :: cV α b st)) rfl rfl (hb ok.2.2.2.2.2.1 d)
    refine ⟨T', _, cells, slots, ⟨X', rep_mk (by rw [e']; exact rep_store (rep_one Rp) ha hq' Wt hlen hset (fun q' y _ h => arV_sA s q _ _ q' h) rfl rfl), by rw [e']; exact Fm.wr Wt (by omega) (by have := Nat.mul_le_mul_left (cK P.2 + 1) hp; simp only [cK] at *; omega), Fr.snoc X' Nl (by have := ok.2.2.2.2.2.2.2.2.2.2.1; omega), by rw [e', Wt.size]; exact hs, u1, u2, c1, c2, hN⟩, fun target r => ?_⟩
    rw [show cV α b (.int x :: .int j :: .ref (q + 2) :: st) = .int x :: .int j :: .ref (b + (q + 1)) :: cV α b st from rfl, show b + (q + 1) = b + 1 + q by omega]
    exact stp target r) g
/-! ## 5. A method as a whole; calls -/
def Call (P : PI) (M : Meth) (as : List Value) (w : W) (out : Option Value × W) : Prop :=
  ∀ (l : Launch) (Z : State) (a0 : Array Value) (ws : List Jvm.Cond) (α b n0 : Nat) (h0 : Heap), (∀ d ∈ P.1, d.before a0 Z = true) → Facts Z a0 P.2 → n0 ≤ b → RepW Z P.2 α b w h0 → w.2.length ≤ mN M → (mTop M = true → h0.size = b + usedC w ∧ usedC w = mUC M ∧ usedS P.2 w = mUS M) →
    MetFree l (mY M) (head1 (Jvm.Cond.code (mY M) (mB M) (mL M) (mT M) :: ws) (mR M)) (fun a U => a = (cV α b as).toArray ∧ Z.Warmed39 U.vm ∧ U.heap = h0) (fun _ _ _ _ _ => True)
      (fun _ U o U' => ∃ v L, o = .returned v ∧ (v = out.1.map (con α b) ∧ Fr n0 L ∧ RepW Z P.2 α b out.2 U'.heap ∧ Frm b (b + (cK P.2 + 1) * mN M) h0 U'.heap ∧ ∃ k, U'.heap.size = h0.size + k ∧ k + usedC w = usedC out.2) ∧ FrameEnd U o U' L (mR M).cells (mR M).slots)
theorem call_of_go {as : List Value} (hpl : plainName (mY M).cls = true) (hlen : (entryL as (mL M)).length = mL M) (hret : mT M = none → out.1 = none) (g : Go P M 0 (entryL as (mL M)) [] w out) : Call P M as w out := by
  intro l Z a0 ws α b n0 h0 hw fa hn0 Rp hN htop
  refine MetFree.of_bodySF (plainFor_of_name hpl) hisR ?_
  intro p e s m args below meth c s₁ Bd hml0 hP hK
  obtain ⟨rfl, hZ, hh⟩ := hP
  have X0 : Stand p l e (mR M) s m (cV α b as).toArray below meth c s₁ [] 0 0 := Stand.of_body Bd
  have e0 : s₁.heap = h0 := by rw [← hh, Bd.state]; rfl
  obtain ⟨T', L', c', n', I', fin⟩ := g hlen l Z a0 p e (mR M) s m (cV α b as).toArray below meth c α b n0 h0 (usedC w) (usedS P.2 w) ⟨hw, fa, Bd.exec, hZ, findClass_of_methodNamed Bd.named, Bd.bytes, hml0, Bd.returns, (name_of_methodNamed Bd.named Bd.method).1, rfl, hn0, htop, by rw [hh]⟩ s₁ [] 0 0 ⟨X0, by rw [e0]; exact Rp, by rw [e0]; exact Frm.refl _ _ _, Fr.nil _, by rw [e0]; rfl, by simp, by simp, Nat.zero_le _, Nat.zero_le _, hN⟩
  obtain ⟨X', Rp', Fm', Nl', hs', u1', u2', c1', c2', hN'⟩ := I'
  obtain ⟨fs, hr, hrun, hended, hW, hsame⟩ := X'.leave (v := out.1.map (con α b)) (fun h => by rw [Bd.returns] at h; rw [hret h]; rfl)
  refine ⟨_, _, ?_, hrun, hended, _, _, rfl, ⟨rfl, Nl', Rp', Fm', c', hs', u1'⟩, ⟨_, rfl⟩, hW, hsame.mono c1' c2'⟩
  have q := fin fs hr
  rw [← entry_locals] at q
  exact q
def nr : Value → Bool
  | .ref _ => false
  | _ => true
theorem con_nr {α b : Nat} {v : Value} (h : nr v = true) : con α b v = v := by
  cases v <;> first | rfl | cases h
theorem cV_nr {α b : Nat} {l : List Value} (h : l.all nr = true) : cV α b l = l := by
  have : ∀ x ∈ l, con α b x = x := fun x hx => con_nr (List.all_eq_true.mp h x hx)
  unfold cV
  exact (List.map_congr_left this).trans (List.map_id _)
theorem rep_obj {Z : State} {ci : CI} {α b : Nat} {h : Heap} {i : Nat} (F : RepW Z ci α b w h) (ho : w.2[i]? = some o) : RepW Z ci 0 (b + (cK ci + 1) * i) (none, [o]) h := rep_mk (F.2 i o ho)
theorem rep_back {Z : State} {ci : CI} {α α' b : Nat} {h h' : Heap} {i : Nat} (F : RepW Z ci α b w h) (ho : w.2[i]? = some o) (G : RepW Z ci α' (b + (cK ci + 1) * i) (none, [o']) h') (Fm : Frm (b + (cK ci + 1) * i) (b + (cK ci + 1) * i + (cK ci + 1) * 1) h h') : RepW Z ci α b (w.1, w.2.set i o') h' := by
  refine ⟨fun l hl => ⟨((F.1 l hl).1).frm fun c q => Fm _ _ q (Or.inl ?_), (F.1 l hl).2⟩, fun j oj hj => ?_⟩
  · have := (F.1 l hl).2; exact Nat.lt_of_lt_of_le this (Nat.le_add_right _ _)
  · by_cases e : j = i
    · subst e
      rw [show (w.1, w.2.set j o').2 = w.2.set j o' from rfl, List.getElem?_set_self (get_lt ho)] at hj
      cases hj
      exact rep_one G
    · rw [show (w.1, w.2.set i o').2 = w.2.set i o' from rfl, List.getElem?_set_ne (Ne.symm e)] at hj
      refine (F.2 j oj hj).frm fun x c q1 q2 q3 => Fm _ _ q3 ?_
      rcases Nat.lt_or_gt_of_ne e with q | q
      · have := Nat.mul_le_mul_left (cK ci + 1) q
        rw [Nat.mul_succ] at this; omega
      · have := Nat.mul_le_mul_left (cK ci + 1) q
        rw [Nat.mul_succ] at this; omega
theorem sum_set {A : Type} (f : A → Nat) {a a' : A} : ∀ {l : List A} {i : Nat}, l[i]? = some a → ((l.set i a').map f).sum + f a = (l.map f).sum + f a'
  | [], i, h => by simp at h
  | b :: r, 0, h => by simp at h; subst h; simp; omega
  | b :: r, i + 1, h => by
    simp only [List.getElem?_cons_succ] at h
    have := sum_set f (a' := a') h
    simp only [List.set_cons_succ, List.map_cons, List.sum_cons]; omega
def CQ (ci : CI) (Z : State) (α b n0 : Nat) (h0 : Heap) (N : Nat) (w : W) (out : Option Value × W) (v : Option Value) (hp : Heap) (L : List Loc) : Prop := v = out.1.map (con α b) ∧ Fr n0 L ∧ RepW Z ci α b out.2 hp ∧ Frm b (b + (cK ci + 1) * N) h0 hp ∧ ∃ k, hp.size = h0.size + k ∧ k + usedC w = usedC out.2
/-- what a callee that makes nothing must fit into -/
def Small (M M' : Meth) (rest : List Value) : Prop := (mR M').cells = 0 ∧ (mR M').slots = 0 ∧ mTop M' = false ∧ Nat.ble ((mR M').frames + 1) (mR M).frames = true ∧ Nat.ble ((rest.map fun v => v.category).sum + (mL M' + 11) + (mR M').locals) (mR M).locals = true
theorem ret_st {α b b' : Nat} {r : Option Value} {rest : List Value} (hr : r.all nr = true) : (r.map (con 0 b')).toList ++ cV α b rest = cV α b (r.toList ++ rest) := by
  cases r with
  | none => rfl
  | some v => simp only [Option.map_some, Option.toList_some, cV, List.cons_append, List.nil_append, List.map_cons]; rw [con_nr (show nr v = true from hr), con_nr (show nr v = true from hr)]
theorem inv_obj {l : Launch} {Z : State} {p : Program} {e : Env} {R : Room} {s : State} {m : MethodId} {args : Array Value} {below : List Frame} {meth : Method} {c : Code} {α b n0 : Nat} {h0 : Heap} {uC uS : Nat} {T T2 : State} {locs L2 : List Loc} {cells slots rc rs i : Nat}
    (I : Inv P M l Z p e R s m args below meth c α b n0 h0 uC uS w T locs cells slots) (ho : w.2[i]? = some o) (X2 : Stand p l e R s m args below meth c T2 (locs ++ L2) (cells + rc) (slots + rs))
    (N2 : Fr n0 L2) (R2 : RepW Z P.2 0 (b + (cK P.2 + 1) * i) (none, [o']) T2.heap) (F2 : Frm (b + (cK P.2 + 1) * i) (b + (cK P.2 + 1) * i + (cK P.2 + 1) * 1) T.heap T2.heap) (k2 : ∃ k, T2.heap.size = T.heap.size + k ∧ k + usedC (none, [o]) = usedC (none, [o']))
    (hC : o'.1 = o.1 + rc) (hS : usedS P.2 (none, [o']) = usedS P.2 (none, [o]) + rs) (q1 : cells + rc ≤ R.cells) (q2 : slots + rs ≤ R.slots) : Inv P M l Z p e R s m args below meth c α b n0 h0 uC uS (w.1, w.2.set i o') T2 (locs ++ L2) (cells + rc) (slots + rs) := by
  obtain ⟨X, Rp, Fm, Nl, hs, u1, u2, c1, c2, hN⟩ := I
  obtain ⟨k, k1, k3⟩ := k2
  have hi := get_lt ho
  have a1 := sum_set (fun o : Nat × S => 1 + o.1) (a' := o') ho
  have a2 := sum_set (fun o : Nat × S => cF P.2 + (((cA P.2).take o.1).map fun x => x.2.2.2).sum) (a' := o') ho
  have hle : (cK P.2 + 1) * (i + 1) ≤ (cK P.2 + 1) * mN M := Nat.mul_le_mul_left _ (by omega)
  rw [Nat.mul_succ] at hle
  refine ⟨X2, rep_back Rp ho R2 F2, Fm.trans (F2.wide (Nat.le_add_right _ _) (by omega)), Nl.app N2, ?_, ?_, ?_, q1, q2, by simpa using hN⟩
  · simp only [usedC, List.map_cons, List.map_nil, List.sum_cons, List.sum_nil] at k3; omega
  · simp only [usedC] at u1 ⊢; omega
  · simp only [usedS, List.map_cons, List.map_nil, List.sum_cons, List.sum_nil] at u2 hS ⊢; omega
def LinkV (P : PI) (own : String) (idx : Nat) (M' : Meth) : Prop := Jvm.Cond.methodLink own idx (mY M') ∈ P.1 ∧ Jvm.Cond.declares (mY M') ∈ P.1 ∧ Jvm.Cond.selects (cN P.2) (mY M') (mY M') ∈ P.1 ∧ Jvm.Cond.instanceMethod (mY M') ∈ P.1 ∧ Jvm.Cond.code (mY M') (mB M') (mL M') (mT M') ∈ P.1 ∧ (mY M').cls = cN P.2 ∧ mN M' = 1
def LinkP (P : PI) (own : String) (idx : Nat) (M' : Meth) : Prop := Jvm.Cond.methodLink own idx (mY M') ∈ P.1 ∧ Jvm.Cond.instanceMethod (mY M') ∈ P.1 ∧ Jvm.Cond.privateMethod (mY M') ∈ P.1 ∧ Jvm.Cond.code (mY M') (mB M') (mL M') (mT M') ∈ P.1 ∧ (mY M').cls = cN P.2 ∧ mN M' = 1
def LinkS (P : PI) (own : String) (idx : Nat) (M' : Meth) : Prop := Jvm.Cond.methodLink own idx (mY M') ∈ P.1 ∧ Jvm.Cond.static (mY M') ∈ P.1 ∧ Jvm.Cond.initialized (mY M').cls ∈ P.1 ∧ Jvm.Cond.code (mY M') (mB M') (mL M') (mT M') ∈ P.1 ∧ ((mY M').cls ≠ "java/lang/invoke/MethodHandle" ∧ (mY M').cls ≠ "java/lang/invoke/VarHandle")
def LinkI (P : PI) (own : String) (idx : Nat) (M' : Meth) : Prop := Jvm.Cond.methodLink own idx (mY M') ∈ P.1 ∧ Jvm.Cond.instanceMethod (mY M') ∈ P.1 ∧ Jvm.Cond.code (mY M') (mB M') (mL M') (mT M') ∈ P.1 ∧ (mY M').cls = cN P.2 ∧ mN M' = 1 ∧ mT M' = none ∧ (mY M').name = "<init>"
variable {M' : Meth} {i idx id : Nat} {as rest : List Value} {rv : Option Value} {ps : List FieldType} {rt : Option FieldType}
theorem cV_call {α b : Nat} {jd : Nat} (hnr : as.all nr = true) (hst : st = as.reverse ++ .ref (jd + 1) :: rest) : cV α b st = as.reverse ++ .ref (b + jd) :: cV α b rest := by
  subst hst
  have h1 : cV α b as.reverse = as.reverse := cV_nr (by rw [List.all_reverse]; exact hnr)
  unfold cV at h1 ⊢
  rw [List.map_append, h1]; rfl
theorem go_virt (lk : LinkV P (mY M).cls idx M') (pd : parseMethodDescriptor (mY M').desc = some ⟨ps, rt⟩) (hn : as.length = ps.length) (hid : id = (cK P.2 + 1) * i + 1) (hst : st = as.reverse ++ .ref id :: rest) (hnr : as.all nr = true) (hrr : rv.all nr = true) (ho : w.2[i]? = some o) (hw' : w' = (w.1, w.2.set i o')) (hC : o'.1 = o.1) (sm : Small M M' rest)
    (d : decode (mB M) pc = .ok (.invokevirtual idx, 3)) (cl : Call P M' (.ref 1 :: as) (none, [o]) (rv, (none, [o']))) (g : Go P M (pc + 3) L (rv.toList ++ rest) w' out) : Go P M pc L st w out :=
  go_ch (fun l Z a0 p e R s1 m args below meth c α b n0 h0 uC uS ok hl T locs cells slots I => by
    subst hw' hid
    obtain ⟨hw, fa, hx, hZ, hown, hc, hml, hret, hnm, hR, hn0, htop, hsz⟩ := ok
    obtain ⟨k1, k2, k3, k4, k5, k6, k7⟩ := lk
    obtain ⟨z1, z2, z3, z4, z5⟩ := sm
    have C := cl l Z a0 [] 0 (b + (cK P.2 + 1) * i) n0 T.heap hw fa (Nat.le_trans hn0 (Nat.le_add_right _ _)) (rep_obj I.2.1 ho) (by rw [k7]; exact Nat.le_refl _) (fun q => by rw [z3] at q; cases q)
    have Bk := backOf (Q := CQ P.2 Z 0 (b + (cK P.2 + 1) * i) n0 T.heap (mN M') (none, [o]) (rv, (none, [o']))) (R := R) (p := p) (e := e) (below := below) (s := s1) (args := args) (len := 3) (W := (rest.map fun v => v.category).sum) C hZ (hw _ k5) (by rw [k6]; exact fa.2.1) (by rw [hR]; exact Nat.le_of_ble_eq_true z4) (by rw [hR]; exact Nat.le_of_ble_eq_true z5)
    have E := (I.2.1.2 i o ho).1
    obtain ⟨cB, kB, q1, q2, q3⟩ := isOf (T := T) hZ rfl E
    obtain ⟨v, vm1, ⟨T2, Lx, kx, nx⟩, -, X2, ⟨L2, hQ, l2, y2, n2⟩, stp⟩ := I.1.virtualBack hx (y := mY M') (z := mY M') hown (mvT hZ (hw _ k1)) (mvT hZ (hw _ k2)) (notFace_of_selects (args := #[]) (mvT hZ (hw _ k3))) (mvT hZ (hw _ k3)) (mvT hZ (hw _ k4)) (by rw [k6]; exact fa.2.2.2.2.2.2) Bk q1 q3 (g := mkF m pc (cL α b L) (cV α b st)) rfl (by show (cL α b L).size = c.maxLocals; rw [cL_size, hl, hml]) (Steps.refl _) (argsL := as) (rest := cV α b rest) (lenOf pd hn) (cV_call hnr hst)
      (by show 2 * 0 + _ ≤ _; rw [cV_sum]; exact Nat.le_of_eq (Nat.zero_add _)) (hb hc d) (fun _ _ => ⟨by rw [show (cV 0 (b + (cK P.2 + 1) * i) (.ref 1 :: as)) = .ref (b + (cK P.2 + 1) * i) :: cV 0 (b + (cK P.2 + 1) * i) as from rfl, cV_nr hnr], rfl, by rw [z1]; exact I.2.2.2.2.2.2.2.1, by rw [z2]; exact I.2.2.2.2.2.2.2.2.1⟩)
    dsimp only [Pt.U, Pt.locs, Pt.cells, Pt.slots] at X2 l2 y2 n2 stp hQ
    subst l2 y2 n2
    obtain ⟨rfl, N2, R2, F2, k8⟩ := hQ
    rw [k7] at F2
    refine ⟨T2, _, _, _, inv_obj I ho X2 N2 R2 F2 k8 (by rw [z1]; exact hC) (by rw [z2]; simp [usedS, hC]) (by rw [z1]; exact I.2.2.2.2.2.2.2.1) (by rw [z2]; exact I.2.2.2.2.2.2.2.2.1), fun target r => stp.trans ?_⟩
    rw [← ret_st (b' := b + (cK P.2 + 1) * i) hrr] at r
    exact r) g
theorem go_priv (lk : LinkP P (mY M).cls idx M') (pd : parseMethodDescriptor (mY M').desc = some ⟨ps, rt⟩) (hn : as.length = ps.length) (hid : id = (cK P.2 + 1) * i + 1) (hst : st = as.reverse ++ .ref id :: rest) (hnr : as.all nr = true) (hrr : rv.all nr = true) (ho : w.2[i]? = some o) (hw' : w' = (w.1, w.2.set i o')) (hC : o'.1 = o.1) (sm : Small M M' rest)
    (d : decode (mB M) pc = .ok (.invokevirtual idx, 3)) (cl : Call P M' (.ref 1 :: as) (none, [o]) (rv, (none, [o']))) (g : Go P M (pc + 3) L (rv.toList ++ rest) w' out) : Go P M pc L st w out :=
  go_ch (fun l Z a0 p e R s1 m args below meth c α b n0 h0 uC uS ok hl T locs cells slots I => by
    subst hw' hid
    obtain ⟨hw, fa, hx, hZ, hown, hc, hml, hret, hnm, hR, hn0, htop, hsz⟩ := ok
    obtain ⟨k1, k4, k3, k5, k6, k7⟩ := lk
    obtain ⟨z1, z2, z3, z4, z5⟩ := sm
    have C := cl l Z a0 [] 0 (b + (cK P.2 + 1) * i) n0 T.heap hw fa (Nat.le_trans hn0 (Nat.le_add_right _ _)) (rep_obj I.2.1 ho) (by rw [k7]; exact Nat.le_refl _) (fun q => by rw [z3] at q; cases q)
    have Bk := backOf (Q := CQ P.2 Z 0 (b + (cK P.2 + 1) * i) n0 T.heap (mN M') (none, [o]) (rv, (none, [o']))) (R := R) (p := p) (e := e) (below := below) (s := s1) (args := args) (len := 3) (W := (rest.map fun v => v.category).sum) C hZ (hw _ k5) (by rw [k6]; exact fa.2.1) (by rw [hR]; exact Nat.le_of_ble_eq_true z4) (by rw [hR]; exact Nat.le_of_ble_eq_true z5)
    obtain ⟨cell, q1, q2⟩ := (I.2.1.2 i o ho).1.cell
    have hy : (mY M').cls ≠ "java/lang/invoke/MethodHandle" ∧ (mY M').cls ≠ "java/lang/invoke/VarHandle" := by rw [k6]; exact fa.2.2.2.2.2.2
    have hpriv : s1.PrivateAt (mY M') := Cond.privateMethod_at (mvP hZ (hw _ k3) (args := #[]))
    have hin : (Jvm.Cond.instanceMethod (mY M')).before args s1 = true := mvT hZ (hw _ k4)
    obtain ⟨c2, kk, i1, i2, i3, i4, -⟩ := Cond.instantiable_spec fa.1
    obtain ⟨k', j1, j2⟩ := hZ.alike.2.2 _ _ i2
    have hsel : (Jvm.Cond.selects (mY M').cls (mY M') (mY M')).before args s1 = true := selects_self_of_private (c := c2) (k := k') (by rw [k6, hZ.alike.findClass]; exact i1) j1 (by
      have : kk.isInterface = false := by simp only [Bool.or_eq_false_iff] at i4; exact i4.1
      rw [j2]; exact this) hpriv hin hy
    obtain ⟨v, vm1, ⟨T2, Lx, kx, nx⟩, -, X2, ⟨L2, hQ, l2, y2, n2⟩, stp⟩ := I.1.privateBack hx (y := mY M') hown (mvT hZ (hw _ k1)) hin hsel hpriv (mvT hZ (hw _ k5)) hy Bk (g := mkF m pc (cL α b L) (cV α b st)) rfl (by show (cL α b L).size = c.maxLocals; rw [cL_size, hl, hml]) (Steps.refl _) (a := b + (cK P.2 + 1) * i) q1 q2 (argsL := as) (rest := cV α b rest) (lenOf pd hn) (cV_call hnr hst)
      (by show 2 * 0 + _ ≤ _; rw [cV_sum]; exact Nat.le_of_eq (Nat.zero_add _)) (hb hc d) (fun _ _ => ⟨by rw [show (cV 0 (b + (cK P.2 + 1) * i) (.ref 1 :: as)) = .ref (b + (cK P.2 + 1) * i) :: cV 0 (b + (cK P.2 + 1) * i) as from rfl, cV_nr hnr], rfl, by rw [z1]; exact I.2.2.2.2.2.2.2.1, by rw [z2]; exact I.2.2.2.2.2.2.2.2.1⟩)
    dsimp only [Pt.U, Pt.locs, Pt.cells, Pt.slots] at X2 l2 y2 n2 stp hQ
    subst l2 y2 n2
    obtain ⟨rfl, N2, R2, F2, k8⟩ := hQ
    rw [k7] at F2
    refine ⟨T2, _, _, _, inv_obj I ho X2 N2 R2 F2 k8 (by rw [z1]; exact hC) (by rw [z2]; simp [usedS, hC]) (by rw [z1]; exact I.2.2.2.2.2.2.2.1) (by rw [z2]; exact I.2.2.2.2.2.2.2.2.1), fun target r => stp.trans ?_⟩
    rw [← ret_st (b' := b + (cK P.2 + 1) * i) hrr] at r
    exact r) g
theorem go_stat (lk : LinkS P (mY M).cls idx M') (pd : parseMethodDescriptor (mY M').desc = some ⟨ps, rt⟩) (hn : as.length = ps.length) (hst : st = as.reverse ++ rest) (hN' : mN M' ≤ mN M ∧ w.2.length ≤ mN M') (hu : usedC w' = usedC w ∧ usedS P.2 w' = usedS P.2 w ∧ w'.2.length = w.2.length) (sm : Small M M' rest)
    (d : decode (mB M) pc = .ok (.invokestatic idx, 3)) (cl : Call P M' as w (rv, w')) (g : Go P M (pc + 3) L (rv.toList ++ rest) w' out) : Go P M pc L st w out :=
  go_ch (fun l Z a0 p e R s1 m args below meth c α b n0 h0 uC uS ok hl T locs cells slots I => by
    obtain ⟨hw, fa, hx, hZ, hown, hc, hml, hret, hnm, hR, hn0, htop, hsz⟩ := ok
    obtain ⟨k1, k2, k3, k5, k6⟩ := lk
    obtain ⟨z1, z2, z3, z4, z5⟩ := sm
    have C := cl l Z a0 [] α b n0 T.heap hw fa hn0 I.2.1 hN'.2 (fun q => by rw [z3] at q; cases q)
    have Bk := backOf (Q := CQ P.2 Z α b n0 T.heap (mN M') w (rv, w')) (R := R) (p := p) (e := e) (below := below) (s := s1) (args := args) (len := 3) (W := (rest.map fun v => v.category).sum) C hZ (hw _ k5) (hw _ k3) (by rw [hR]; exact Nat.le_of_ble_eq_true z4) (by rw [hR]; exact Nat.le_of_ble_eq_true z5)
    obtain ⟨v, vm1, ⟨T2, Lx, kx, nx⟩, -, X2, ⟨L2, hQ, l2, y2, n2⟩, stp⟩ := Jvm.LawKit.callS I.1 hx (y := mY M') hown (mvT hZ (hw _ k1)) (mvT hZ (hw _ k2)) (mvT hZ (hw _ k3)) (mvT hZ (hw _ k5)) k6 Bk (g := mkF m pc (cL α b L) (cV α b st)) rfl (by show (cL α b L).size = c.maxLocals; rw [cL_size, hl, hml]) (argsL := cV α b as) (rest := cV α b rest) (lenOf pd (by simpa [cV] using hn)) (by subst hst; simp [cV])
      (by show 2 * 0 + _ ≤ _; rw [cV_sum]; exact Nat.le_of_eq (Nat.zero_add _)) (hb hc d) (fun _ _ => ⟨rfl, rfl, by rw [z1]; exact I.2.2.2.2.2.2.2.1, by rw [z2]; exact I.2.2.2.2.2.2.2.2.1⟩)
    dsimp only [Pt.U, Pt.locs, Pt.cells, Pt.slots] at X2 l2 y2 n2 stp hQ
    subst l2 y2 n2
    obtain ⟨rfl, N2, R2, F2, k, k8, k9⟩ := hQ
    obtain ⟨X, Rp, Fm, Nl, hs, u1, u2, c1, c2, hN⟩ := I
    rw [z1, z2] at X2
    refine ⟨T2, _, _, _, ⟨X2, R2, Fm.trans (F2.wide (Nat.le_refl _) (by have := Nat.mul_le_mul_left (cK P.2 + 1) hN'.1; omega)), Nl.app N2, ?_, ?_, ?_, c1, c2, by rw [hu.2.2]; exact hN⟩, fun target r => stp target ?_⟩
    · rw [k8]; have := hu.1; simp only at k9; omega
    · rw [hu.1]; exact u1
    · rw [hu.2.1]; exact u2
    · have e1 : cV α b (rv.toList ++ rest) = (rv.map (con α b)).toList ++ cV α b rest := by cases rv <;> rfl
      rw [e1] at r; exact r) g
/-- a constructor, by its contract -/
theorem go_init {k2 : Nat} {s2 : S} (lk : LinkI P (mY M).cls idx M') (pd : parseMethodDescriptor (mY M').desc = some ⟨ps, rt⟩) (hn : as.length = ps.length) (hid : id = (cK P.2 + 1) * i + 1) (hst : st = as.reverse ++ .ref id :: rest) (hnr : as.all nr = true) (ho : w.2[i]? = some (k, s)) (hw' : w' = (w.1, w.2.set i (k2, s2)))
    (hC : k2 = k + (mR M').cells) (hS : usedS P.2 (none, [(k2, s2)]) = usedS P.2 (none, [(k, s)]) + (mR M').slots) (htM : mTop M = true) (hR1 : Nat.ble (usedC w + (mR M').cells) ((mR M).cells + mUC M) = true) (hR2 : Nat.ble (usedS P.2 w + (mR M').slots) ((mR M).slots + mUS M) = true)
    (hq : usedC w = (cK P.2 + 1) * i + usedC (none, [(k, s)]) ∧ usedC (none, [(k, s)]) = mUC M' ∧ usedS P.2 (none, [(k, s)]) = mUS M') (sm : Nat.ble ((mR M').frames + 1) (mR M).frames = true ∧ Nat.ble ((rest.map fun v => v.category).sum + (mL M' + 11) + (mR M').locals) (mR M).locals = true)
    (d : decode (mB M) pc = .ok (.invokespecial idx, 3)) (cl : Call P M' (.ref 1 :: as) (none, [(k, s)]) (none, (none, [(k2, s2)]))) (g : Go P M (pc + 3) L rest w' out) : Go P M pc L st w out :=
  go_ch (fun l Z a0 p e R s1 m args below meth c α b n0 h0 uC uS ok hl T locs cells slots I => by
    subst hw' hid
    obtain ⟨hw, fa, hx, hZ, hown, hc, hml, hret, hnm, hR, hn0, htop, hsz⟩ := ok
    obtain ⟨k1, k4, k5, k6, k7, k9, k10⟩ := lk
    obtain ⟨z4, z5⟩ := sm
    obtain ⟨t1, t2, t3⟩ := htop htM
    have Ic := I.2.2.2.2.2.1
    have Is := I.2.2.2.2.2.2.1
    have b1 : cells + (mR M').cells ≤ R.cells := by have := Nat.le_of_ble_eq_true hR1; rw [hR]; omega
    have b2 : slots + (mR M').slots ≤ R.slots := by have := Nat.le_of_ble_eq_true hR2; rw [hR]; omega
    have C := cl l Z a0 [] 0 (b + (cK P.2 + 1) * i) n0 T.heap hw fa (Nat.le_trans hn0 (Nat.le_add_right _ _)) (rep_obj I.2.1 ho) (by rw [k7]; exact Nat.le_refl _) (fun _ => ⟨by rw [I.2.2.2.2.1]; have := hq.1; omega, hq.2.1, hq.2.2⟩)
    have Bk := backOf (Q := CQ P.2 Z 0 (b + (cK P.2 + 1) * i) n0 T.heap (mN M') (none, [(k, s)]) (none, (none, [(k2, s2)]))) (R := R) (p := p) (e := e) (below := below) (s := s1) (args := args) (len := 3) (W := (rest.map fun v => v.category).sum) C hZ (hw _ k5) (by rw [k6]; exact fa.2.1) (by rw [hR]; exact Nat.le_of_ble_eq_true z4) (by rw [hR]; exact Nat.le_of_ble_eq_true z5)
    have hy : (mY M').cls ≠ "java/lang/invoke/MethodHandle" ∧ (mY M').cls ≠ "java/lang/invoke/VarHandle" := by rw [k6]; exact fa.2.2.2.2.2.2
    have hcd := hw _ k5
    rw [k9] at hcd
    obtain ⟨v, vm1, ⟨T2, Lx, kx, nx⟩, -, X2, ⟨L2, hQ, l2, y2, n2⟩, stp⟩ := I.1.specialBack hx (y := mY M') k10 hown (mvT hZ (hw _ k1)) (mvT hZ (hw _ k4)) (mvT hZ hcd) hy Bk (g := mkF m pc (cL α b L) (cV α b st)) rfl (by show (cL α b L).size = c.maxLocals; rw [cL_size, hl, hml]) (Steps.refl _) (a := b + (cK P.2 + 1) * i) (argsL := as) (rest := cV α b rest) (lenOf pd hn) (cV_call hnr hst)
      (by show 2 * 0 + _ ≤ _; rw [cV_sum]; exact Nat.le_of_eq (Nat.zero_add _)) (hb hc d) (fun _ _ => ⟨by rw [show (cV 0 (b + (cK P.2 + 1) * i) (.ref 1 :: as)) = .ref (b + (cK P.2 + 1) * i) :: cV 0 (b + (cK P.2 + 1) * i) as from rfl, cV_nr hnr], rfl, b1, b2⟩)
    dsimp only [Pt.U, Pt.locs, Pt.cells, Pt.slots] at X2 l2 y2 n2 stp hQ
    subst l2 y2 n2
    obtain ⟨rfl, N2, R2, F2, k8⟩ := hQ
    rw [k7] at F2
    exact ⟨T2, _, _, _, inv_obj I ho X2 N2 R2 F2 k8 hC hS b1 b2, fun target r => stp.trans r⟩) g
/-- Object's constructor -/
theorem go_objinit {a : Nat} (k1 : Jvm.Cond.methodLink (mY M).cls idx Lib.objectInit ∈ P.1) (k2 : Jvm.Cond.instanceMethod Lib.objectInit ∈ P.1) (k3 : Jvm.Cond.code Lib.objectInit ⟨#[0xb1]⟩ 1 none ∈ P.1) (z4 : Nat.ble 1 (mR M).frames = true) (z5 : Nat.ble ((rest.map fun v => v.category).sum + 12) (mR M).locals = true)
    (d : decode (mB M) pc = .ok (.invokespecial idx, 3)) (g : Go P M (pc + 3) L rest w out) : Go P M pc L (.ref (a + 1) :: rest) w out :=
  go_ch (fun l Z a0 p e R s1 m args below meth c α b n0 h0 uC uS ok hl T locs cells slots I => by
    obtain ⟨hw, fa, hx, hZ, hown, hc, hml, hret, hnm, hR, hn0, htop, hsz⟩ := ok
    obtain ⟨X, Rp, Fm, Nl, hs, u1, u2, c1, c2, hN⟩ := I
    obtain ⟨T', X', e', stp⟩ := initO X hx hZ hown (hw _ k1) (hw _ k2) (hw _ k3) rfl (g := mkF m pc (cL α b L) (cV α b (.ref (a + 1) :: rest))) rfl (by show (cL α b L).size = c.maxLocals; rw [cL_size, hl, hml]) (a := b + a) (rest := cV α b rest) rfl (hb hc d) (by rw [hR]; exact Nat.le_of_ble_eq_true z4) (W := (rest.map fun v => v.category).sum) (by show 2 * 0 + _ ≤ _; rw [cV_sum]; exact Nat.le_of_eq (Nat.zero_add _)) (by rw [hR]; exact Nat.le_of_ble_eq_true z5)
    exact ⟨T', locs, cells, slots, ⟨X', by rw [e']; exact Rp, by rw [e']; exact Fm, Nl, by rw [e']; exact hs, u1, u2, c1, c2, hN⟩, fun target r => stp target r⟩) g
/-- a new object of the class -/
theorem go_new {n : Nat} (k1 : Jvm.Cond.classLink (mY M).cls idx (cN P.2) ∈ P.1) (htM : mTop M = true) (hn : w.2.length = n) (hq : usedC w = (cK P.2 + 1) * n) (hw' : w' = (w.1, w.2 ++ [(0, s0)])) (hN' : Nat.blt n (mN M) = true) (hR1 : Nat.ble (usedC w + 1) ((mR M).cells + mUC M) = true) (hR2 : Nat.ble (usedS P.2 w + cF P.2) ((mR M).slots + mUS M) = true)
    (d : decode (mB M) pc = .ok (.new idx, 3)) (hid : id = (cK P.2 + 1) * n + 1) (g : Go P M (pc + 3) L (.ref id :: st) w' out) : Go P M pc L st w out :=
  go_ch (fun l Z a0 p e R s1 m args below meth c α b n0 h0 uC uS ok hl T locs cells slots I => by
    subst hw' hid
    obtain ⟨hw, fa, hx, hZ, hown, hc, hml, hret, hnm, hR, hn0, htop, hsz⟩ := ok
    obtain ⟨X, Rp, Fm, Nl, hs, u1, u2, c1, c2, hN⟩ := I
    obtain ⟨t1, t2, t3⟩ := htop htM
    have b1 : cells + 1 ≤ R.cells := by have := Nat.le_of_ble_eq_true hR1; rw [hR]; omega
    have b2 : slots + cF P.2 ≤ R.slots := by have := Nat.le_of_ble_eq_true hR2; rw [hR]; omega
    obtain ⟨T2, h2, X2, e2, E2, A2, D2, -, st2⟩ := newO X hx hZ hown (hw _ k1) fa.1 fa.2.1 rfl (g := mkF m pc (cL α b L) (cV α b st)) rfl (hb hc d) b1 b2
    have ha : T.heap.size = b + (cK P.2 + 1) * n := by rw [hs, t1]; omega
    rw [ha] at A2 D2 st2
    have sz2 : T2.heap.size = T.heap.size + 1 := by
      have q1 := X2.heapSize
      have q2 : b + (cK P.2 + 1) * n < h2.size := A2.lt
      rw [e2] at q1 ⊢
      omega
    refine ⟨T2, locs, _, _, ⟨X2, ?_, by rw [e2]; exact Fm.ext E2, Nl, by rw [sz2, hs]; omega, ?_, ?_, b1, b2, ?_⟩, fun target r => st2 target ?_⟩
    · rw [e2]
      refine ⟨fun l1 h1 => (Rp.ext E2).1 l1 h1, fun j oj hj => ?_⟩
      by_cases q : j < w.2.length
      · rw [show (w.1, w.2 ++ [(0, s0)]).2 = w.2 ++ [(0, s0)] from rfl, List.getElem?_append_left q] at hj
        exact (Rp.ext E2).2 j oj hj
      · have hj' := get_lt hj
        simp at hj'
        have ej : j = n := by omega
        subst ej
        rw [show (w.1, w.2 ++ [(0, s0)]).2 = w.2 ++ [(0, s0)] from rfl, List.getElem?_append_right (by omega)] at hj
        rw [hn] at hj; simp at hj; subst hj
        refine ⟨A2, fun f x hx => ?_, fun q x hx => ?_, fun q x _ hq => absurd hq (Nat.not_lt_zero _)⟩
        · have := D2 (fa.2.2.1 f x hx).1 (fa.2.2.1 f x hx).2
          rw [fa.2.2.2.2.2.1 f x hx] at this
          exact this
        · have := D2 (fa.2.2.2.1 q x hx).1 (fa.2.2.2.1 q x hx).2
          rw [if_neg (Nat.not_lt_zero _)]
          exact this
    · simp [usedC] at u1 ⊢; omega
    · simp [usedS] at u2 ⊢; omega
    · simp; have : n < mN M := by simpa [Nat.blt_eq] using hN'
      omega
    · exact r) g
/-- a new array, laid into its field at once -/
theorem rep_new {Z : State} {a0 : Array Value} {ci : CI} {h h1 h2 : Heap} {b : Nat} {s s' : S} {k : Nat} {nm ds : String} {ty : FieldType} {cap : Nat} {cl : Cell} (fa : Facts Z a0 ci) (F : Rep1 Z ci h b (k, s)) (hf : (cA ci)[k]? = some (nm, ds, ty, cap)) (E : Ext h h1) (A : Arr Z h1 (b + 1 + k) cl ty) (ec : cl.slots = (arV ty s' k).toArray)
    (Wt : Wr h1 h2 b (Jvm.RoadKit.slotOf Z (cN ci) nm ds) (.ref (b + 1 + k))) (ho : ∀ q' x, (cA ci)[q']? = some x → q' ≠ k → arV x.2.2.1 s' q' = arV x.2.2.1 s q') (ha : gI s' = gI s) (hbb : gL s' = gL s) : Rep1 Z ci h2 b (k + 1, s') := by
  obtain ⟨f1, f2, f3, f4⟩ := F
  obtain ⟨-, -, g1, g2, g3, -⟩ := fa
  have lt := get_lt hf
  refine ⟨(f1.ext E).wr Wt, fun f x hx => ?_, fun q x hx => ?_, fun q x hx hq => ?_⟩
  · have e : scV x.2.2 s' f = scV x.2.2 s f := by unfold scV; split <;> simp [ha, hbb]
    have lt' := get_lt hx
    show Fld Z h2 b (cN ci) x.1 x.2.1 (scV x.2.2 s' f)
    rw [e]
    refine ((f2 f x hx).ext E).other Wt (Or.inr ?_)
    refine slot_ne (g1 f x hx).1 (g2 k _ hf).1 ?_ (g1 f x hx).2 (g2 k _ hf).2
    intro en
    have n1 : ((cS ci).map (fun x => x.1) ++ (cA ci).map (fun x => x.1))[f]? = some x.1 := by rw [List.getElem?_append_left (by simpa using lt')]; simp [hx]
    have n2 : ((cS ci).map (fun x => x.1) ++ (cA ci).map (fun x => x.1))[(cS ci).length + k]? = some nm := by rw [List.getElem?_append_right (by simp)]; simp [hf]
    rw [en] at n1
    obtain ⟨i1, j1⟩ := List.getElem?_eq_some_iff.mp n1
    obtain ⟨i2, j2⟩ := List.getElem?_eq_some_iff.mp n2
    have := (List.getElem_inj g3).mp (j1.trans j2.symm)
    omega
  · by_cases e : q = k
    · subst e
      cases hf.symm.trans hx
      rw [if_pos (show q < (q + 1, s').1 from Nat.lt_succ_self q)]
      exact ((f3 q _ hf).ext E).same Wt
    · have lt' := get_lt hx
      have e2 : (if q < (k + 1, s').1 then Value.ref (b + 1 + q) else Value.null) = (if q < (k, s).1 then Value.ref (b + 1 + q) else Value.null) := by
        show (if q < k + 1 then _ else _) = (if q < k then _ else _)
        by_cases q1 : q < k
        · rw [if_pos q1, if_pos (by omega)]
        · rw [if_neg q1, if_neg (by omega)]
      rw [e2]
      refine ((f3 q x hx).ext E).other Wt (Or.inr ?_)
      refine slot_ne (g2 q x hx).1 (g2 k _ hf).1 ?_ (g2 q x hx).2 (g2 k _ hf).2
      intro en
      have n1 : ((cS ci).map (fun x => x.1) ++ (cA ci).map (fun x => x.1))[(cS ci).length + q]? = some x.1 := by rw [List.getElem?_append_right (by simp)]; simp [hx]
      have n2 : ((cS ci).map (fun x => x.1) ++ (cA ci).map (fun x => x.1))[(cS ci).length + k]? = some nm := by rw [List.getElem?_append_right (by simp)]; simp [hf]
      rw [en] at n1
      obtain ⟨i1, j1⟩ := List.getElem?_eq_some_iff.mp n1
      obtain ⟨i2, j2⟩ := List.getElem?_eq_some_iff.mp n2
      have := (List.getElem_inj g3).mp (j1.trans j2.symm)
      omega
  · by_cases e : q = k
    · subst e
      cases hf.symm.trans hx
      exact ⟨cl, A.other Wt (nq (by omega)), ec⟩
    · obtain ⟨c, B, eb⟩ := f4 q x hx (by have : q < k + 1 := hq; show q < k; omega)
      refine ⟨c, (B.ext E).other Wt (nq (by omega)), eb.trans ?_⟩
      rw [ho q x hx e]
theorem go_newV {aty : ArrayType} {ty : FieldType} {nm ds : String} {cap : Nat} {n : Int32} {s' : S} (hty : newarray.typeOf aty = ty) (ha : (cA P.2)[k]? = some (nm, ds, ty, cap)) (k0 : Jvm.Cond.arrayClass ty ∈ P.1) (k1 : Jvm.Cond.fieldLink (cN P.2) idx (cN P.2) nm ds ∈ P.1) (hM : (mY M).cls = cN P.2)
    (hlays : Jvm.Cond.lays (cN P.2) (cN P.2) nm ds ∈ P.1 ∨ (Jvm.Cond.laysFinal (cN P.2) (cN P.2) nm ds ∈ P.1 ∧ (mY M).name = "<init>")) (htM : mTop M = true) (hp : 0 < mN M) (hn : ¬ n < 0) (hcap : Nat.ble n.toNatClampNeg cap = true) (hbig : Nat.ble (cap * 8) 536870912 = true)
    (hR1 : Nat.ble (1 + k + 1) ((mR M).cells + mUC M) = true) (hR2 : Nat.ble (usedS P.2 (none, [(k, s)]) + cap) ((mR M).slots + mUS M) = true)
    (hv : arV ty s' k = List.replicate n.toNatClampNeg (defaultValue ty)) (hoth : ∀ q' x, (cA P.2)[q']? = some x → q' ≠ k → arV x.2.2.1 s' q' = arV x.2.2.1 s q') (hgI : gI s' = gI s) (hgL : gL s' = gL s)
    (d : decode (mB M) pc = .ok (.newarray aty, 2)) (d2 : decode (mB M) (pc + 2) = .ok (.putfield idx, 3)) (g : Go P M (pc + 5) L st (none, [(k + 1, s')]) out) : Go P M pc L (.int n :: .ref 1 :: st) (none, [(k, s)]) out :=
  go_ch (fun l Z a0 p e R s1 m args below meth c α b n0 h0 uC uS ok hl T locs cells slots I => by
    obtain ⟨hw, fa, hx, hZ, hown, hc, hml, hret, hnm, hR, hn0, htop, hsz⟩ := ok
    obtain ⟨X, Rp, Fm, Nl, hs, u1, u2, c1, c2, hN⟩ := I
    obtain ⟨t1, t2, t3⟩ := htop htM
    have u1' : cells + uC = 1 + k := by simpa [usedC] using u1
    have b1 : cells + 1 ≤ R.cells := by have := Nat.le_of_ble_eq_true hR1; rw [hR]; omega
    have b2 : slots + cap ≤ R.slots := by have := Nat.le_of_ble_eq_true hR2; rw [hR]; omega
    subst hty
    obtain ⟨T2, h2, cA2, X2, e2, E2, A2, st2⟩ := newP X hx hZ (hw _ k0) rfl (g := mkF m pc (cL α b L) (.int n :: .ref b :: cV α b st)) rfl (hb hc d) rfl hn (Nat.le_of_ble_eq_true hcap) (Nat.le_of_ble_eq_true hbig) b1 b2
    have hadr : T.heap.size = b + 1 + k := by rw [hs, t1]; omega
    rw [hadr] at A2 st2
    have sz2 : T2.heap.size = T.heap.size + 1 := by
      have q1 := X2.heapSize
      have q2 : b + 1 + k < h2.size := A2.lt
      rw [e2] at q1 ⊢
      omega
    have Rp1 := rep_one Rp
    have Fd := Rp1.2.2.1 k _ ha
    rw [if_neg (show ¬ k < (k, s).1 from Nat.lt_irrefl k)] at Fd
    rw [hM] at hown
    obtain ⟨T3, h3, X3, e3, Wt, st3⟩ := putF X2 hx hZ hown (host := "") (Or.inl (hw _ k1)) Via.refl e2 (Fd.ext E2) (Rp1.1.ext E2) (hlays.imp (fun q => hw _ q) (fun q => ⟨hw _ q.1, rfl, hnm.trans q.2⟩)) fa.1 (fa.2.2.2.1 k _ ha).2 (v := .ref (b + 1 + k)) rfl rfl (g := mkF m (pc + 2) (cL α b L) (.ref (b + 1 + k) :: .ref b :: cV α b st)) rfl rfl (hb hc d2)
    refine ⟨T3, _, _, _, ⟨X3, rep_mk (by rw [e3]; exact rep_new fa Rp1 ha E2 A2 (by rw [hv]; simp [newA]) Wt hoth hgI hgL), by rw [e3]; exact (Fm.ext E2).wr Wt (Nat.le_refl _) (by have := Nat.mul_le_mul_left (cK P.2 + 1) hp; omega), Fr.snoc X3 Nl hn0, by rw [e3, Wt.size, ← e2, sz2, hs]; omega, by simp [usedC]; omega, ?_, b1, b2, hN⟩, fun target r => st2 target (st3 target r)⟩
    have hk := get_lt ha
    simp only [usedS, List.map_cons, List.map_nil, List.sum_cons, List.sum_nil] at u2 ⊢
    rw [List.take_add_one, List.map_append, List.sum_append, ha]
    simp [List.map_take] at u2 ⊢; omega) g
theorem go_newI {aty : ArrayType} {ty : FieldType} {nm ds : String} {cap : Nat} {n : Int32} (hty : newarray.typeOf aty = ty) (hi : ty = .int ∨ ty = .boolean ∨ ty = .byte) (ha : (cA P.2)[k]? = some (nm, ds, ty, cap)) (k0 : Jvm.Cond.arrayClass ty ∈ P.1) (k1 : Jvm.Cond.fieldLink (cN P.2) idx (cN P.2) nm ds ∈ P.1) (hM : (mY M).cls = cN P.2)
    (hlays : Jvm.Cond.lays (cN P.2) (cN P.2) nm ds ∈ P.1 ∨ (Jvm.Cond.laysFinal (cN P.2) (cN P.2) nm ds ∈ P.1 ∧ (mY M).name = "<init>")) (htM : mTop M = true) (hp : 0 < mN M) (hn : ¬ n < 0) (hcap : Nat.ble n.toNatClampNeg cap = true) (hbig : Nat.ble (cap * 8) 536870912 = true)
    (hR1 : Nat.ble (1 + k + 1) ((mR M).cells + mUC M) = true) (hR2 : Nat.ble (usedS P.2 (none, [(k, s)]) + cap) ((mR M).slots + mUS M) = true)
    (d : decode (mB M) pc = .ok (.newarray aty, 2)) (d2 : decode (mB M) (pc + 2) = .ok (.putfield idx, 3)) (g : Go P M (pc + 5) L st (none, [(k + 1, sA s k (rep n.toNatClampNeg 0))]) out) : Go P M pc L (.int n :: .ref 1 :: st) (none, [(k, s)]) out :=
  go_newV hty ha k0 k1 hM hlays htM hp hn hcap hbig hR1 hR2 (by rcases hi with rfl | rfl | rfl <;> simp [arV, gA_sA, defaultValue, rep]) (fun q' x _ h => arV_sA s k _ _ q' h) rfl rfl d d2 g
theorem go_newJ {nm ds : String} {cap : Nat} {n : Int32} (ha : (cA P.2)[k]? = some (nm, ds, .long, cap)) (k0 : Jvm.Cond.arrayClass .long ∈ P.1) (k1 : Jvm.Cond.fieldLink (cN P.2) idx (cN P.2) nm ds ∈ P.1) (hM : (mY M).cls = cN P.2)
    (hlays : Jvm.Cond.lays (cN P.2) (cN P.2) nm ds ∈ P.1 ∨ (Jvm.Cond.laysFinal (cN P.2) (cN P.2) nm ds ∈ P.1 ∧ (mY M).name = "<init>")) (htM : mTop M = true) (hp : 0 < mN M) (hn : ¬ n < 0) (hcap : Nat.ble n.toNatClampNeg cap = true) (hbig : Nat.ble (cap * 8) 536870912 = true)
    (hR1 : Nat.ble (1 + k + 1) ((mR M).cells + mUC M) = true) (hR2 : Nat.ble (usedS P.2 (none, [(k, s)]) + cap) ((mR M).slots + mUS M) = true)
    (d : decode (mB M) pc = .ok (.newarray .long, 2)) (d2 : decode (mB M) (pc + 2) = .ok (.putfield idx, 3)) (g : Go P M (pc + 5) L st (none, [(k + 1, sB s k (rep n.toNatClampNeg 0))]) out) : Go P M pc L (.int n :: .ref 1 :: st) (none, [(k, s)]) out :=
  go_newV (aty := .long) (ty := .long) rfl ha k0 k1 hM hlays htM hp hn hcap hbig hR1 hR2 (by simp [arV, gB_sB, defaultValue, rep]) (fun q' x _ h => arV_sB s k _ _ q' h) rfl rfl d d2 g
end Rules
/-! ## the start -/
theorem tsw_out {x : Int32} {lo hi : Int} (h1 : -2147483648 ≤ lo) (h2 : hi < 2147483648) (ks : List Int32) (hk : ks = ((List.range (hi - lo + 1).toNat).map fun (j : Nat) => Int32.ofInt (lo + (j : Int)))) (hx : ∀ k ∈ ks, x ≠ k) : x.toInt < lo ∨ x.toInt > hi := by
  by_cases q1 : x.toInt < lo
  · exact Or.inl q1
  by_cases q2 : x.toInt > hi
  · exact Or.inr q2
  refine absurd rfl (hx x ?_)
  rw [hk, List.mem_map]
  refine ⟨(x.toInt - lo).toNat, List.mem_range.mpr (by omega), ?_⟩
  rw [show lo + (((x.toInt - lo).toNat : Nat) : Int) = x.toInt by omega]
  exact Int32.ofInt_toInt x
theorem list_of_array {V : Type} (a : Array V) (f : Nat → V) (h : ∀ j, j < a.size → a[j]? = some (f j)) : a = ((List.range a.size).map f).toArray := by
  apply Array.ext'
  apply List.ext_getElem?
  intro j
  by_cases q : j < a.size
  · simpa [q] using h j q
  · simp [q]
theorem small_len {n : Nat} {k : Int32} (h : n < 2 ^ 31) (q : n.toInt32 ≤ k) : (n : Int) ≤ k.toInt := by
  have e : (Int32.ofNat n).toInt = n := Int32.toInt_ofNat_of_lt h
  have := Int32.le_iff_toInt_le.mp q
  rwa [show n.toInt32.toInt = n from e] at this
theorem script_of {s : State} {args : Array Value} {t : Term} {k : Int32} (hf : Fit s) (h1 : (Cond.arrayOf t .int).value args s none s [] = some true) (h2 : (Cond.le (.length t) (.int k)).value args s none s [] = some true) :
    ∃ (a : Nat) (l : List Int32), t.eval args s none [] s = some (.ref a) ∧ Ar s s.heap a .int (l.map .int) ∧ a < s.heap.size ∧ (l.length : Int) ≤ k.toInt := by
  obtain ⟨a, ev⟩ := arr_v h1
  obtain ⟨c, A⟩ := Arr.start ev h1
  obtain ⟨x, y, ex, ey, -, -⟩ := cmp_v (Or.inr (Or.inr h2))
  obtain ⟨b, cell, e1, e2, e3, ev2⟩ := Jvm.Lib.length_spec ex
  have ea : b = a := by rw [ev] at e1; cases e1; rfl
  have ec : cell = c := by
    have := Arr.fin (Vm.Alike.refl _) A
    rw [ea, this] at e2; cases e2; rfl
  subst ea ec ev2
  obtain ⟨n, en, S⟩ := Scr.start hf A e3
  have hle : cell.slots.size.toInt32 ≤ k := by
    have ek : (Term.int k).eval args s none [] s = some (.int k) := rfl
    simp only [Cond.value, ex, ek] at h2
    simpa using h2
  refine ⟨b, (List.range cell.slots.size).map fun j => atv cell (Int32.ofNat j), ev, ⟨cell, A, ?_⟩, A.lt, ?_⟩
  · rw [List.map_map]
    refine list_of_array cell.slots _ fun j hj => ?_
    have e4 : (Int32.ofNat j).toNatClampNeg = j := by
      have : (Int32.ofNat j).toInt = j := Int32.toInt_ofNat_of_lt (by omega)
      simp [Int32.toNatClampNeg, this]
    have e5 : ¬ (Int32.ofNat j < 0) := by
      rw [Int32.lt_iff_toInt_lt, Int32.toInt_ofNat_of_lt (by omega)]; simp
    have := S.2.2.2 (Int32.ofNat j) (by rw [e4]; rintro (q | q); exact e5 q; omega)
    rw [e4] at this
    exact this
  · simpa using small_len e3 hle
theorem repW_none (Z : State) (ci : CI) (α b : Nat) (h : Heap) : RepW Z ci α b (none, []) h := ⟨fun l hl => (by cases hl), fun i o ho => (by simp at ho)⟩
theorem repW_some {Z : State} {ci : CI} {α b : Nat} {h : Heap} {l : List Int32} (A : Ar Z h α .int (l.map .int)) (q : α < b) : RepW Z ci α b (some l, []) h := ⟨fun l' hl => by cases hl; exact ⟨A, q⟩, fun i o ho => by simp at ho⟩
end Jvm.AM
/-! ## plain lemmas on ints, arrays and updates -/
namespace Jvm.PL
open Jvm.AM
theorem ofNat_toInt {k : Nat} (h : k < 2147483648) : (Int32.ofNat k).toInt = k := Int32.toInt_ofNat_of_lt h
theorem ofNat_lt {k m : Nat} (hk : k < 2147483648) (hm : m < 2147483648) : Int32.ofNat k < Int32.ofNat m ↔ k < m := by
  rw [Int32.lt_iff_toInt_lt, ofNat_toInt hk, ofNat_toInt hm]; omega
theorem lt_lit {k m : Nat} (hk : k < 2147483648) (hm : m < 2147483648 := by decide) : Int32.ofNat k < (OfNat.ofNat m : Int32) ↔ k < m := ofNat_lt hk hm
theorem ofNat_succ (k : Nat) : Int32.ofNat k + 1 = Int32.ofNat (k + 1) := by
  rw [Int32.ofNat_add]; rfl
theorem ofNat_nonneg {k : Nat} (hk : k < 2147483648) : ¬ Int32.ofNat k < 0 := by rw [Int32.lt_iff_toInt_lt, ofNat_toInt hk]; simp
theorem ofNat_clamp {k : Nat} (hk : k < 2147483648) : (Int32.ofNat k).toNatClampNeg = k := by simp [Int32.toNatClampNeg, ofNat_toInt hk]
theorem ix_ofNat {A : Type} (l : List A) {k : Nat} (hk : k < 2147483648) : ix l (Int32.ofNat k) = l[k]? := by
  unfold ix; rw [if_neg (ofNat_nonneg hk), ofNat_clamp hk]
theorem st_ofNat {A : Type} (l : List A) (x : A) {k : Nat} (hk : k < 2147483648) (hl : k < l.length) : Jvm.AM.st l (Int32.ofNat k) x = some (l.set k x) := by
  unfold Jvm.AM.st; rw [if_neg (ofNat_nonneg hk), ofNat_clamp hk, if_pos hl]
theorem toInt_clamp {v : Int32} (h : ¬ v < 0) : (v.toNatClampNeg : Int) = v.toInt := by
  rw [Int32.lt_iff_toInt_lt] at h
  simp only [Int32.toNatClampNeg]
  have : (0 : Int32).toInt = 0 := rfl
  omega
theorem eq_ofNat {v : Int32} (h : ¬ v < 0) : v = Int32.ofNat v.toNatClampNeg ∧ v.toNatClampNeg < 2147483648 := by
  have h1 := toInt_clamp h
  have h2 := v.toInt_lt
  have h3 : v.toNatClampNeg < 2147483648 := by omega
  refine ⟨Int32.toInt_inj.mp ?_, h3⟩
  rw [ofNat_toInt h3]; exact h1.symm
theorem ix_rep {A : Type} {v : Int32} {n : Nat} {x : A} (h0 : ¬ v < 0) (h1 : v < Int32.ofNat n) (hn : n < 2147483648) : ix (rep n x) v = some x := by
  obtain ⟨e, hl⟩ := eq_ofNat h0
  rw [e] at h1 ⊢
  have h2 := (ofNat_lt hl hn).mp h1
  rw [ix_ofNat _ hl, rep_get, if_pos h2]
theorem ix_nat {A : Type} (l : List A) {v : Int32} (h0 : ¬ v < 0) : ix l v = l[v.toNatClampNeg]? := by unfold ix; rw [if_neg h0]
theorem st_nat {A : Type} (l : List A) {v : Int32} {x : A} (h0 : ¬ v < 0) (hl : v.toNatClampNeg < l.length) : Jvm.AM.st l v x = some (l.set v.toNatClampNeg x) := by
  unfold Jvm.AM.st; rw [if_neg h0, if_pos hl]
theorem clamp_lt {v : Int32} {n : Nat} (h0 : ¬ v < 0) (h1 : v < Int32.ofNat n) (hn : n < 2147483648) : v.toNatClampNeg < n := by
  obtain ⟨e, hl⟩ := eq_ofNat h0
  rw [e] at h1
  exact (ofNat_lt hl hn).mp h1
theorem clamp_inj {v w : Int32} (h0 : ¬ v < 0) (h1 : ¬ w < 0) : v.toNatClampNeg = w.toNatClampNeg ↔ v = w := by
  constructor
  · intro h
    have a := toInt_clamp h0
    have b := toInt_clamp h1
    exact Int32.toInt_inj.mp (by omega)
  · intro h; rw [h]
end Jvm.PL
namespace Jvm.PL
open Jvm.AM
/-- all but the named fields and arrays is as it was -/
def Fx (I L A B : List Nat) (s s' : S) : Prop := (∀ f, f ∉ I → gI s' f = gI s f) ∧ (∀ f, f ∉ L → gL s' f = gL s f) ∧ (∀ f, f ∉ A → gA s' f = gA s f) ∧ (∀ f, f ∉ B → gB s' f = gB s f)
theorem Fx.refl (I L A B : List Nat) (s : S) : Fx I L A B s s := ⟨fun _ _ => rfl, fun _ _ => rfl, fun _ _ => rfl, fun _ _ => rfl⟩
theorem Fx.trans {I L A B : List Nat} {s t u : S} (h : Fx I L A B s t) (k : Fx I L A B t u) : Fx I L A B s u :=
  ⟨fun f q => (k.1 f q).trans (h.1 f q), fun f q => (k.2.1 f q).trans (h.2.1 f q), fun f q => (k.2.2.1 f q).trans (h.2.2.1 f q), fun f q => (k.2.2.2 f q).trans (h.2.2.2 f q)⟩
theorem Fx.mono {I L A B I' L' A' B' : List Nat} {s t : S} (h : Fx I L A B s t) (a : ∀ f ∈ I, f ∈ I') (b : ∀ f ∈ L, f ∈ L') (c : ∀ f ∈ A, f ∈ A') (d : ∀ f ∈ B, f ∈ B') : Fx I' L' A' B' s t :=
  ⟨fun f q => h.1 f fun x => q (a f x), fun f q => h.2.1 f fun x => q (b f x), fun f q => h.2.2.1 f fun x => q (c f x), fun f q => h.2.2.2 f fun x => q (d f x)⟩
theorem Fx.sA {I L A B : List Nat} {s t : S} {f : Nat} {l : List Int32} (h : Fx I L A B s t) (hf : f ∈ A) : Fx I L A B s (Jvm.AM.sA t f l) :=
  ⟨fun g q => (gI_sA _ _ _ _).trans (h.1 g q), fun g q => (gL_sA _ _ _ _).trans (h.2.1 g q), fun g q => by rw [gA_sA, if_neg (fun e : g = f => q (e ▸ hf))]; exact h.2.2.1 g q, fun g q => (gB_sA _ _ _ _).trans (h.2.2.2 g q)⟩
theorem Fx.sI {I L A B : List Nat} {s t : S} {f : Nat} {l : Int32} (h : Fx I L A B s t) (hf : f ∈ I) : Fx I L A B s (Jvm.AM.sI t f l) :=
  ⟨fun g q => by rw [gI_sI, if_neg (fun e : g = f => q (e ▸ hf))]; exact h.1 g q, fun g q => (gL_sI _ _ _ _).trans (h.2.1 g q), fun g q => (gA_sI _ _ _ _).trans (h.2.2.1 g q), fun g q => (gB_sI _ _ _ _).trans (h.2.2.2 g q)⟩
theorem Fx.sL {I L A B : List Nat} {s t : S} {f : Nat} {l : Int64} (h : Fx I L A B s t) (hf : f ∈ L) : Fx I L A B s (Jvm.AM.sL t f l) :=
  ⟨fun g q => (gI_sL _ _ _ _).trans (h.1 g q), fun g q => by rw [gL_sL, if_neg (fun e : g = f => q (e ▸ hf))]; exact h.2.1 g q, fun g q => (gA_sL _ _ _ _).trans (h.2.2.1 g q), fun g q => (gB_sL _ _ _ _).trans (h.2.2.2 g q)⟩
theorem Fx.sB {I L A B : List Nat} {s t : S} {f : Nat} {l : List Int64} (h : Fx I L A B s t) (hf : f ∈ B) : Fx I L A B s (Jvm.AM.sB t f l) :=
  ⟨fun g q => (gI_sB _ _ _ _).trans (h.1 g q), fun g q => (gL_sB _ _ _ _).trans (h.2.1 g q), fun g q => (gA_sB _ _ _ _).trans (h.2.2.1 g q), fun g q => by rw [gB_sB, if_neg (fun e : g = f => q (e ▸ hf))]; exact h.2.2.2 g q⟩
theorem ofNat_add' (a b : Nat) : Int32.ofNat a + Int32.ofNat b = Int32.ofNat (a + b) := (Int32.ofNat_add a b).symm
/-- the first k entries are x -/
def Upto {A : Type} (l : List A) (k : Nat) (x : A) : Prop := ∀ i, i < k → l[i]? = some x
theorem Upto.zero {A : Type} (l : List A) (x : A) : Upto l 0 x := fun _ h => absurd h (Nat.not_lt_zero _)
theorem Upto.set {A : Type} {l : List A} {k : Nat} {x : A} (h : Upto l k x) (hk : k < l.length) : Upto (l.set k x) (k + 1) x := fun i hi => by
  by_cases e : i = k
  · subst e; simp [hk]
  · rw [List.getElem?_set_ne (Ne.symm e)]; exact h i (by omega)
theorem Upto.all {A : Type} {l : List A} {k : Nat} {x : A} (h : Upto l k x) (hk : l.length = k) : l = rep k x := by
  apply List.ext_getElem?
  intro i
  rw [rep_get]
  by_cases q : i < k
  · rw [if_pos q]; exact h i q
  · rw [if_neg q, List.getElem?_eq_none (by omega)]
end Jvm.PL
namespace Jvm.PL
open Jvm.AM
/-- a loop by its invariant; m: the turns that are left -/
theorem run_loop {A B : Type} (L : Nat → A → B) (F : A → B) (I : Nat → A → Prop) (h : ∀ n m a, I (m + 1) a → ∃ a', L (n + 1) a = L n a' ∧ I m a') (h0 : ∀ n a, I 0 a → L (n + 1) a = F a) : ∀ m n a, m < n → I m a → ∃ a', L n a = F a' ∧ I 0 a'
  | 0, n + 1, a, _, i => ⟨a, h0 n a i, i⟩
  | m + 1, n + 1, a, q, i => by
    obtain ⟨a', e, i'⟩ := h n m a i
    obtain ⟨a'', e', i''⟩ := run_loop L F I h h0 m n a' (by omega) i'
    exact ⟨a'', e.trans e', i''⟩
/-- 'for k in 0 .. N' -/
theorem run_for {B : Type} (L : Nat → Int32 → S → B) (F : S → B) (N : Nat) (I : Nat → S → Prop) (h : ∀ n k s, k < N → I k s → ∃ s', L (n + 1) (Int32.ofNat k) s = L n (Int32.ofNat (k + 1)) s' ∧ I (k + 1) s') (h0 : ∀ n s, I N s → L (n + 1) (Int32.ofNat N) s = F s) (n : Nat) (s : S) (hn : N < n) (i : I 0 s) :
    ∃ s', L n (Int32.ofNat 0) s = F s' ∧ I N s' := by
  obtain ⟨a, e, k, hk, ea, ia⟩ := run_loop (fun n (a : Int32 × S) => L n a.1 a.2) (fun a => F a.2) (fun m a => ∃ k, k + m = N ∧ a.1 = Int32.ofNat k ∧ I k a.2)
    (fun n m a ⟨k, h1, h2, h3⟩ => by
      obtain ⟨s', e, i'⟩ := h n k a.2 (by omega) h3
      exact ⟨(Int32.ofNat (k + 1), s'), by show L (n + 1) a.1 a.2 = _; rw [h2]; exact e, k + 1, by omega, rfl, i'⟩)
    (fun n a ⟨k, h1, h2, h3⟩ => by
      have : k = N := by omega
      subst this
      show L (n + 1) a.1 a.2 = _; rw [h2]; exact h0 n a.2 h3) N n (Int32.ofNat 0, s) hn ⟨0, by omega, rfl, i⟩
  have : k = N := by omega
  subst this
  exact ⟨a.2, e, ia⟩
end Jvm.PL
namespace Jvm.PL
open Jvm.AM
/-- the end test of a loop over a script -/
theorem len_lt {n k c : Nat} (hn : n ≤ 100000) (hk : k ≤ 100000) (hc : c ≤ 100000) : (n.toInt32 - Int32.ofNat c) < Int32.ofNat k ↔ n < k + c := by
  rw [Int32.lt_iff_toInt_lt, Int32.toInt_sub, show n.toInt32 = Int32.ofNat n from rfl, ofNat_toInt (by omega), ofNat_toInt (by omega), ofNat_toInt (by omega)]
  have : ((n : Int) - c).bmod (2 ^ 32) = n - c := by
    rw [Int.bmod_eq_of_le] <;> omega
  rw [this]; omega
/-- a loop over a script, c entries a turn: it ends in what every way out says -/
theorem run_script {A B : Type} (L : Nat → Int32 → A → B) (c len : Nat) (hc : 0 < c) (P : B → Prop) (I : Nat → A → Prop) (h : ∀ n k a, k + c ≤ len → I k a → P (L (n + 1) (Int32.ofNat k) a) ∨ ∃ a', L (n + 1) (Int32.ofNat k) a = L n (Int32.ofNat (k + c)) a' ∧ I (k + c) a') (h0 : ∀ n k a, k ≤ len → len < k + c → I k a → P (L (n + 1) (Int32.ofNat k) a)) : ∀ n k a, len < n + k → k ≤ len → I k a → P (L n (Int32.ofNat k) a)
  | 0, k, a, hn, hk, i => by omega
  | n + 1, k, a, hn, hk, i => by
    by_cases q : k + c ≤ len
    · rcases h n k a q i with p | ⟨a', e, i'⟩
      · exact p
      · rw [e]; exact run_script L c len hc P I h h0 n (k + c) a' (by omega) q i'
    · exact h0 n k a hk (by omega) i
theorem ix_some {A : Type} (l : List A) {k : Nat} (hk : k < 2147483648) (hl : k < l.length) : ∃ x, ix l (Int32.ofNat k) = some x := ⟨l[k], by rw [ix_ofNat _ hk, List.getElem?_eq_getElem hl]⟩
theorem ofNat_lit (a b : Nat) : Int32.ofNat a + (OfNat.ofNat b : Int32) = Int32.ofNat (a + b) := ofNat_add' a b
end Jvm.PL
namespace Jvm.PL
open Jvm.AM
theorem upd_same {A : Type} (g : Nat → A) (f : Nat) (a b : A) : aupd (aupd g f a) f b = aupd g f b := by
  funext x; unfold aupd; by_cases q : x = f <;> simp [q]
theorem upd_comm {A : Type} (g : Nat → A) {f h : Nat} (n : f ≠ h) (a b : A) : aupd (aupd g f a) h b = aupd (aupd g h b) f a := by
  funext x; unfold aupd
  by_cases q : x = f
  · have : ¬ f = h := n
    simp [q, this]
  · by_cases r : x = h
    · rw [if_pos r, if_neg q, if_pos r]
    · rw [if_neg r, if_neg q, if_neg q, if_neg r]
theorem sA_same (s : S) (f : Nat) (a b : List Int32) : Jvm.AM.sA (Jvm.AM.sA s f a) f b = Jvm.AM.sA s f b := by
  unfold Jvm.AM.sA; simp only [upd_same]
theorem sA_comm (s : S) {f h : Nat} (n : f ≠ h) (a b : List Int32) : Jvm.AM.sA (Jvm.AM.sA s f a) h b = Jvm.AM.sA (Jvm.AM.sA s h b) f a := by
  unfold Jvm.AM.sA; simp only; rw [upd_comm _ n]
end Jvm.PL
/-! ## rows of bits -/
namespace Jvm.PL
open Jvm.AM Jvm.Free
def bt (w : Int32) (y : Nat) : Bool := w.toBitVec.getLsbD y
theorem bt_zero (y : Nat) : bt 0 y = false := by simp [bt]
theorem bt_or (a b : Int32) (y : Nat) : bt (a ||| b) y = (bt a y || bt b y) := by simp [bt]
theorem bt_and (a b : Int32) (y : Nat) : bt (a &&& b) y = (bt a y && bt b y) := by simp [bt]
theorem bt_ge (w : Int32) {y : Nat} (h : 32 ≤ y) : bt w y = false := by unfold bt; exact BitVec.getLsbD_of_ge _ _ h
theorem bt_m1 {y : Nat} (h : y < 32) : bt (-1) y = true := by
  unfold bt
  rw [show (-1 : Int32).toBitVec = BitVec.allOnes 32 from rfl, BitVec.getLsbD_allOnes]
  simp [h]
theorem bt_not (a : Int32) {y : Nat} (h : y < 32) : bt (a ^^^ (-1)) y = !bt a y := by
  have := bt_m1 h
  unfold bt at *
  rw [Int32.toBitVec_xor, BitVec.getLsbD_xor, this]; simp
theorem bt_andn (a b : Int32) (y : Nat) : bt (a &&& (b ^^^ (-1))) y = (bt a y && !bt b y) := by
  rw [bt_and]
  by_cases h : y < 32
  · rw [bt_not b h]
  · rw [bt_ge a (by omega)]; simp
theorem bt_ext {a b : Int32} (h : ∀ y, y < 32 → bt a y = bt b y) : a = b := by
  apply Int32.toBitVec_inj.mp
  apply BitVec.eq_of_getLsbD_eq
  intro i hi
  exact h i hi
theorem bt_eq0 {w : Int32} : w = 0 ↔ ∀ y, y < 32 → bt w y = false := by
  constructor
  · rintro rfl y _; exact bt_zero y
  · intro h; exact bt_ext fun y hy => by rw [h y hy, bt_zero]
theorem ushr_bit (w : Int32) {y : Nat} (hy : y < 32) : (XT.ushr w (Int32.ofNat y)).toBitVec = w.toBitVec >>> y := by
  unfold XT.ushr
  have h1 : ((Int32.ofNat y &&& 31).toUInt32.toBitVec).toNat = y := by
    show ((Int32.ofNat y &&& 31).toBitVec).toNat = y
    rw [Int32.toBitVec_and, BitVec.toNat_and]
    have e1 : (Int32.ofNat y).toBitVec.toNat = y := by
      show (BitVec.ofNat 32 y).toNat = y
      rw [BitVec.toNat_ofNat]; omega
    have e2 : (31 : Int32).toBitVec.toNat = 31 := rfl
    rw [e1, e2, show 31 = 2 ^ 5 - 1 from rfl, Nat.and_two_pow_sub_one_eq_mod]; omega
  show (w.toUInt32 >>> (Int32.ofNat y &&& 31).toUInt32).toBitVec = _
  rw [UInt32.toBitVec_shiftRight]
  show w.toBitVec >>> ((Int32.ofNat y &&& 31).toUInt32.toBitVec % 32) = _
  rw [BitVec.ushiftRight_eq']
  congr 1
  rw [BitVec.toNat_umod, h1]
  show y % 32 = y
  omega
theorem and1 (w : Int32) : (w &&& 1 = 0) ↔ bt w 0 = false := by
  constructor
  · intro h
    have : bt (w &&& 1) 0 = false := by rw [h, bt_zero]
    rw [bt_and] at this
    simpa [show bt 1 0 = true from rfl] using this
  · intro h
    refine bt_ext fun y hy => ?_
    rw [bt_and, bt_zero]
    cases y with
    | zero => rw [h]; rfl
    | succ y =>
      have : bt 1 (y + 1) = false := by
        unfold bt
        show (1#32).getLsbD (y + 1) = false
        simp [BitVec.getLsbD_one]
      rw [this]; simp
theorem test_bit (w : Int32) {y : Nat} (hy : y < 32) : (XT.ushr w (Int32.ofNat y) &&& 1 = 0) ↔ bt w y = false := by
  rw [and1]
  unfold bt
  rw [ushr_bit w hy]; simp
theorem shl_bit {b : Nat} (hb : b < 32) (y : Nat) : bt ((1 : Int32) <<< (Int32.ofNat b &&& 31)) y = decide (y = b) := by
  have h1 : (Int32.ofNat b &&& 31) = Int32.ofNat b := by
    apply Int32.toBitVec_inj.mp
    rw [Int32.toBitVec_and]
    apply BitVec.eq_of_toNat_eq
    rw [BitVec.toNat_and]
    have e1 : (Int32.ofNat b).toBitVec.toNat = b := by
      show (BitVec.ofNat 32 b).toNat = b
      rw [BitVec.toNat_ofNat]; omega
    have e2 : (31 : Int32).toBitVec.toNat = 31 := rfl
    rw [e1, e2, show 31 = 2 ^ 5 - 1 from rfl, Nat.and_two_pow_sub_one_eq_mod]; omega
  rw [h1]
  unfold bt
  have e : ((1 : Int32) <<< Int32.ofNat b).toBitVec = (1#32) <<< b := by
    rw [Int32.toBitVec_shiftLeft]
    show (1#32) <<< ((Int32.ofNat b).toBitVec.smod 32) = _
    have : (Int32.ofNat b).toBitVec.smod 32 = BitVec.ofNat 32 b := by
      have hz : ∀ b : Fin 32, (Int32.ofNat b.val).toBitVec.smod 32 = BitVec.ofNat 32 b.val := by decide
      exact hz ⟨b, hb⟩
    rw [this, BitVec.shiftLeft_eq']
    congr 1
    rw [BitVec.toNat_ofNat]; omega
  rw [e]
  simp only [BitVec.getLsbD_shiftLeft, BitVec.getLsbD_one]
  by_cases h : y = b
  · subst h; simp [hb]
  · simp [h]; omega
end Jvm.PL
namespace Jvm.Pilot.@@N@@
open Jvm Jvm.ClassFile Sem Op Lib Jvm.Free Jvm.Stand Jvm.LawKit Jvm.RoadKit Jvm.AM Jvm.PL Jvm.Pilot.@@N@@.Jvm.D
def ci1 : CI := ("ShadowRedzoneY", 21, [("granuleCount", "I", .int), ("redzoneGranules", "I", .int), ("quarantineBudget", "I", .int), ("arenaSize", "I", .int), ("ringHead", "I", .int), ("ringCount", "I", .int), ("ringBytes", "I", .int), ("runCount", "I", .int), ("liveChunks", "I", .int), ("lastLoaded", "J", .long), ("lastBad", "I", .int), ("errors", "I", .int)], [("data", "[B", .byte, 256), ("shadowOf", "[I", .int, 32), ("ownerOf", "[I", .int, 32), ("chunkStart", "[I", .int, 32), ("chunkSize", "[I", .int, 32), ("chunkState", "[B", .byte, 32), ("ring", "[I", .int, 32), ("runStart", "[I", .int, 32), ("runLength", "[I", .int, 32)])
def PP : PI := (tables_1, ci1)
def BIG : Nat := 1000000
def m0 : Meth := (⟨"ShadowRedzoneY", "clamp", "(III)I"⟩, prog_1_method_17_code, 4, (some .int), { frames := 0, cells := 0, slots := 0, locals := 0 }, 1, false, 0, 0)
def m1 : Meth := (⟨"ShadowRedzoneY", "resetArena", "()V"⟩, prog_1_method_18_code, 2, none, { frames := 0, cells := 0, slots := 0, locals := 0 }, 1, false, 0, 0)
def m2 : Meth := (⟨"ShadowRedzoneY", "resetChunks", "()V"⟩, prog_1_method_19_code, 2, none, { frames := 0, cells := 0, slots := 0, locals := 0 }, 1, false, 0, 0)
def m3 : Meth := (⟨"ShadowRedzoneY", "resetQuarantine", "()V"⟩, prog_1_method_20_code, 2, none, { frames := 0, cells := 0, slots := 0, locals := 0 }, 1, false, 0, 0)
def m4 : Meth := (⟨"ShadowRedzoneY", "resetRuns", "()V"⟩, prog_1_method_21_code, 2, none, { frames := 0, cells := 0, slots := 0, locals := 0 }, 1, false, 0, 0)
def m5 : Meth := (⟨"ShadowRedzoneY", "<init>", "(III)V"⟩, prog_1_method_1_code, 4, none, { frames := 1, cells := 9, slots := 512, locals := 16 }, 1, true, 1, 21)
def m6 : Meth := (⟨"ShadowRedzoneY", "userGranulesFor", "(I)I"⟩, prog_1_method_26_code, 2, (some .int), { frames := 0, cells := 0, slots := 0, locals := 0 }, 1, false, 0, 0)
def m7 : Meth := (⟨"ShadowRedzoneY", "spanFor", "(I)I"⟩, prog_1_method_27_code, 2, (some .int), { frames := 1, cells := 0, slots := 0, locals := 14 }, 1, false, 0, 0)
def m8 : Meth := (⟨"ShadowRedzoneY", "findFitRun", "(I)I"⟩, prog_1_method_45_code, 3, (some .int), { frames := 0, cells := 0, slots := 0, locals := 0 }, 1, false, 0, 0)
def m9 : Meth := (⟨"ShadowRedzoneY", "validSlot", "(I)Z"⟩, prog_1_method_22_code, 2, (some .boolean), { frames := 0, cells := 0, slots := 0, locals := 0 }, 1, false, 0, 0)
def m10 : Meth := (⟨"ShadowRedzoneY", "weightOf", "(I)I"⟩, prog_1_method_28_code, 3, (some .int), { frames := 2, cells := 0, slots := 0, locals := 28 }, 1, false, 0, 0)
def m11 : Meth := (⟨"ShadowRedzoneY", "isQuarantined", "(I)Z"⟩, prog_1_method_24_code, 2, (some .boolean), { frames := 1, cells := 0, slots := 0, locals := 13 }, 1, false, 0, 0)
def m12 : Meth := (⟨"ShadowRedzoneY", "paintRange", "(III)V"⟩, prog_1_method_33_code, 6, none, { frames := 0, cells := 0, slots := 0, locals := 0 }, 1, false, 0, 0)
def m13 : Meth := (⟨"ShadowRedzoneY", "setOwner", "(III)V"⟩, prog_1_method_34_code, 6, none, { frames := 0, cells := 0, slots := 0, locals := 0 }, 1, false, 0, 0)
def m14 : Meth := (⟨"ShadowRedzoneY", "runInsertPosition", "(I)I"⟩, prog_1_method_49_code, 3, (some .int), { frames := 0, cells := 0, slots := 0, locals := 0 }, 1, false, 0, 0)
def m15 : Meth := (⟨"ShadowRedzoneY", "removeRun", "(I)V"⟩, prog_1_method_47_code, 3, none, { frames := 0, cells := 0, slots := 0, locals := 0 }, 1, false, 0, 0)
def m16 : Meth := (⟨"ShadowRedzoneY", "insertRun", "(III)V"⟩, prog_1_method_48_code, 5, none, { frames := 0, cells := 0, slots := 0, locals := 0 }, 1, false, 0, 0)
def m17 : Meth := (⟨"ShadowRedzoneY", "releaseRange", "(II)V"⟩, prog_1_method_50_code, 6, none, { frames := 1, cells := 0, slots := 0, locals := 16 }, 1, false, 0, 0)
def m18 : Meth := (⟨"ShadowRedzoneY", "destroyChunk", "(I)V"⟩, prog_1_method_40_code, 5, none, { frames := 2, cells := 0, slots := 0, locals := 33 }, 1, false, 0, 0)
def m19 : Meth := (⟨"ShadowRedzoneY", "evictOldest", "()V"⟩, prog_1_method_42_code, 2, none, { frames := 3, cells := 0, slots := 0, locals := 49 }, 1, false, 0, 0)
def m20 : Meth := (⟨"ShadowRedzoneY", "findRoom", "(I)I"⟩, prog_1_method_44_code, 4, (some .int), { frames := 4, cells := 0, slots := 0, locals := 62 }, 1, false, 0, 0)
def m21 : Meth := (⟨"ShadowRedzoneY", "findUnusedSlot", "()I"⟩, prog_1_method_25_code, 2, (some .int), { frames := 0, cells := 0, slots := 0, locals := 0 }, 1, false, 0, 0)
def m22 : Meth := (⟨"ShadowRedzoneY", "carveFront", "(II)V"⟩, prog_1_method_46_code, 3, none, { frames := 1, cells := 0, slots := 0, locals := 14 }, 1, false, 0, 0)
def m23 : Meth := (⟨"ShadowRedzoneY", "userGranule", "(I)I"⟩, prog_1_method_29_code, 2, (some .int), { frames := 1, cells := 0, slots := 0, locals := 13 }, 1, false, 0, 0)
def m24 : Meth := (⟨"ShadowRedzoneY", "rightGranule", "(I)I"⟩, prog_1_method_31_code, 3, (some .int), { frames := 2, cells := 0, slots := 0, locals := 26 }, 1, false, 0, 0)
def m25 : Meth := (⟨"ShadowRedzoneY", "paintLiveChunk", "(I)V"⟩, prog_1_method_35_code, 9, none, { frames := 3, cells := 0, slots := 0, locals := 40 }, 1, false, 0, 0)
def m26 : Meth := (⟨"ShadowRedzoneY", "userAddressOf", "(I)I"⟩, prog_1_method_30_code, 3, (some .int), { frames := 2, cells := 0, slots := 0, locals := 26 }, 1, false, 0, 0)
def m27 : Meth := (⟨"ShadowRedzoneY", "zeroRequested", "(I)V"⟩, prog_1_method_37_code, 6, none, { frames := 3, cells := 0, slots := 0, locals := 40 }, 1, false, 0, 0)
def m28 : Meth := (⟨"ShadowRedzoneY", "createChunk", "(III)I"⟩, prog_1_method_38_code, 5, (some .int), { frames := 4, cells := 0, slots := 0, locals := 60 }, 1, false, 0, 0)
def m29 : Meth := (⟨"ShadowRedzoneY", "alloc", "(I)I"⟩, prog_1_method_2_code, 6, (some .int), { frames := 5, cells := 0, slots := 0, locals := 77 }, 1, false, 0, 0)
def m30 : Meth := (⟨"ShadowRedzoneY", "quarantineCount", "()I"⟩, prog_1_method_12_code, 1, (some .int), { frames := 0, cells := 0, slots := 0, locals := 0 }, 1, false, 0, 0)
def m31 : Meth := (⟨"ShadowRedzoneY", "quarantineBytes", "()I"⟩, prog_1_method_13_code, 1, (some .int), { frames := 0, cells := 0, slots := 0, locals := 0 }, 1, false, 0, 0)
def m32 : Meth := (⟨"ShadowRedzoneY", "largestFreeRun", "()I"⟩, prog_1_method_16_code, 3, (some .int), { frames := 0, cells := 0, slots := 0, locals := 0 }, 1, false, 0, 0)
def m33 : Meth := (⟨"ShadowRedzoneY", "slotForUserAddress", "(I)I"⟩, prog_1_method_32_code, 4, (some .int), { frames := 2, cells := 0, slots := 0, locals := 26 }, 1, false, 0, 0)
def m34 : Meth := (⟨"ShadowRedzoneY", "isLive", "(I)Z"⟩, prog_1_method_23_code, 2, (some .boolean), { frames := 1, cells := 0, slots := 0, locals := 13 }, 1, false, 0, 0)
def m35 : Meth := (⟨"ShadowRedzoneY", "userSize", "(I)I"⟩, prog_1_method_10_code, 3, (some .int), { frames := 3, cells := 0, slots := 0, locals := 41 }, 1, false, 0, 0)
def m36 : Meth := (⟨"ShadowRedzoneY", "shadow", "(I)I"⟩, prog_1_method_9_code, 2, (some .int), { frames := 0, cells := 0, slots := 0, locals := 0 }, 1, false, 0, 0)
def m37 : Meth := (⟨"ShadowRedzoneY", "paintQuarantined", "(I)V"⟩, prog_1_method_36_code, 5, none, { frames := 2, cells := 0, slots := 0, locals := 26 }, 1, false, 0, 0)
def m38 : Meth := (⟨"ShadowRedzoneY", "enqueue", "(I)V"⟩, prog_1_method_41_code, 3, none, { frames := 4, cells := 0, slots := 0, locals := 62 }, 1, false, 0, 0)
def m39 : Meth := (⟨"ShadowRedzoneY", "quarantineChunk", "(I)V"⟩, prog_1_method_39_code, 2, none, { frames := 5, cells := 0, slots := 0, locals := 76 }, 1, false, 0, 0)
def m40 : Meth := (⟨"ShadowRedzoneY", "trimToBudget", "()V"⟩, prog_1_method_43_code, 2, none, { frames := 4, cells := 0, slots := 0, locals := 62 }, 1, false, 0, 0)
def m41 : Meth := (⟨"ShadowRedzoneY", "free", "(I)I"⟩, prog_1_method_3_code, 3, (some .int), { frames := 6, cells := 0, slots := 0, locals := 89 }, 1, false, 0, 0)
def m42 : Meth := (⟨"ShadowRedzoneY", "quarantineAt", "(I)I"⟩, prog_1_method_14_code, 3, (some .int), { frames := 3, cells := 0, slots := 0, locals := 40 }, 1, false, 0, 0)
def m43 : Meth := (⟨"ShadowRedzoneYL6", "sizeOf", "(I)I"⟩, method_2_code, 2, (some .int), { frames := 0, cells := 0, slots := 0, locals := 0 }, 1, false, 0, 0)
def m44 : Meth := (⟨"ShadowRedzoneYL6", "addrOf", "(II)I"⟩, method_3_code, 2, (some .int), { frames := 0, cells := 0, slots := 0, locals := 0 }, 1, false, 0, 0)
def m45 : Meth := (⟨"ShadowRedzoneY", "isAccessSize", "(I)Z"⟩, prog_1_method_51_code, 2, (some .boolean), { frames := 0, cells := 0, slots := 0, locals := 0 }, 1, false, 0, 0)
def m46 : Meth := (⟨"ShadowRedzoneY", "kindForShadow", "(II)I"⟩, prog_1_method_55_code, 3, (some .int), { frames := 0, cells := 0, slots := 0, locals := 0 }, 1, false, 0, 0)
def m47 : Meth := (⟨"ShadowRedzoneY", "byteKind", "(I)I"⟩, prog_1_method_54_code, 5, (some .int), { frames := 1, cells := 0, slots := 0, locals := 14 }, 1, false, 0, 0)
def m48 : Meth := (⟨"ShadowRedzoneY", "recordError", "(I)V"⟩, prog_1_method_53_code, 2, none, { frames := 0, cells := 0, slots := 0, locals := 0 }, 1, false, 0, 0)
def m49 : Meth := (⟨"ShadowRedzoneY", "checkAccess", "(II)I"⟩, prog_1_method_52_code, 6, (some .int), { frames := 2, cells := 0, slots := 0, locals := 30 }, 1, false, 0, 0)
def m50 : Meth := (⟨"ShadowRedzoneY", "readLittleEndian", "(II)J"⟩, prog_1_method_56_code, 9, (some .long), { frames := 0, cells := 0, slots := 0, locals := 0 }, 1, false, 0, 0)
def m51 : Meth := (⟨"ShadowRedzoneY", "load", "(II)I"⟩, prog_1_method_4_code, 4, (some .int), { frames := 3, cells := 0, slots := 0, locals := 47 }, 1, false, 0, 0)
def m52 : Meth := (⟨"ShadowRedzoneY", "writeLittleEndian", "(IIJ)V"⟩, prog_1_method_57_code, 7, none, { frames := 0, cells := 0, slots := 0, locals := 0 }, 1, false, 0, 0)
def m53 : Meth := (⟨"ShadowRedzoneY", "store", "(IIJ)I"⟩, prog_1_method_5_code, 6, (some .int), { frames := 3, cells := 0, slots := 0, locals := 47 }, 1, false, 0, 0)
def m54 : Meth := (⟨"ShadowRedzoneY", "lastValue", "()J"⟩, prog_1_method_6_code, 1, (some .long), { frames := 0, cells := 0, slots := 0, locals := 0 }, 1, false, 0, 0)
def m55 : Meth := (⟨"ShadowRedzoneY", "lastBadAddress", "()I"⟩, prog_1_method_7_code, 1, (some .int), { frames := 0, cells := 0, slots := 0, locals := 0 }, 1, false, 0, 0)
def m56 : Meth := (⟨"ShadowRedzoneY", "liveCount", "()I"⟩, prog_1_method_11_code, 1, (some .int), { frames := 0, cells := 0, slots := 0, locals := 0 }, 1, false, 0, 0)
def m57 : Meth := (⟨"ShadowRedzoneY", "errorCount", "()I"⟩, prog_1_method_8_code, 1, (some .int), { frames := 0, cells := 0, slots := 0, locals := 0 }, 1, false, 0, 0)
def m58 : Meth := (⟨"ShadowRedzoneY", "freeRunCount", "()I"⟩, prog_1_method_15_code, 1, (some .int), { frames := 0, cells := 0, slots := 0, locals := 0 }, 1, false, 0, 0)
def m59 : Meth := (x, code, maxLocals, ret, room_1, 1, true, 0, 0)
theorem ar_0 : (cA PP.2)[0]? = some ("data", "[B", .byte, 256) := rfl
theorem ar_1 : (cA PP.2)[1]? = some ("shadowOf", "[I", .int, 32) := rfl
theorem ar_2 : (cA PP.2)[2]? = some ("ownerOf", "[I", .int, 32) := rfl
theorem ar_3 : (cA PP.2)[3]? = some ("chunkStart", "[I", .int, 32) := rfl
theorem ar_4 : (cA PP.2)[4]? = some ("chunkSize", "[I", .int, 32) := rfl
theorem ar_5 : (cA PP.2)[5]? = some ("chunkState", "[B", .byte, 32) := rfl
theorem ar_6 : (cA PP.2)[6]? = some ("ring", "[I", .int, 32) := rfl
theorem ar_7 : (cA PP.2)[7]? = some ("runStart", "[I", .int, 32) := rfl
theorem ar_8 : (cA PP.2)[8]? = some ("runLength", "[I", .int, 32) := rfl
theorem fa_7 : FldA PP 7 0 .byte := ⟨_, _, _, rfl, List.mem_of_getElem? (i := 10) rfl⟩
theorem fa_13 : FldA PP 13 1 .int := ⟨_, _, _, rfl, List.mem_of_getElem? (i := 13) rfl⟩
theorem fa_17 : FldA PP 17 2 .int := ⟨_, _, _, rfl, List.mem_of_getElem? (i := 15) rfl⟩
theorem fa_20 : FldA PP 20 3 .int := ⟨_, _, _, rfl, List.mem_of_getElem? (i := 17) rfl⟩
theorem fa_23 : FldA PP 23 4 .int := ⟨_, _, _, rfl, List.mem_of_getElem? (i := 19) rfl⟩
theorem fa_26 : FldA PP 26 5 .byte := ⟨_, _, _, rfl, List.mem_of_getElem? (i := 21) rfl⟩
theorem fa_29 : FldA PP 29 6 .int := ⟨_, _, _, rfl, List.mem_of_getElem? (i := 23) rfl⟩
theorem fa_32 : FldA PP 32 7 .int := ⟨_, _, _, rfl, List.mem_of_getElem? (i := 25) rfl⟩
theorem fa_35 : FldA PP 35 8 .int := ⟨_, _, _, rfl, List.mem_of_getElem? (i := 27) rfl⟩
theorem fs_42 : FldS PP 42 0 .int := ⟨_, _, rfl, List.mem_of_getElem? (i := 33) rfl⟩
theorem fs_46 : FldS PP 46 1 .int := ⟨_, _, rfl, List.mem_of_getElem? (i := 35) rfl⟩
theorem fs_49 : FldS PP 49 2 .int := ⟨_, _, rfl, List.mem_of_getElem? (i := 37) rfl⟩
theorem fs_52 : FldS PP 52 3 .int := ⟨_, _, rfl, List.mem_of_getElem? (i := 39) rfl⟩
theorem fs_67 : FldS PP 67 8 .int := ⟨_, _, rfl, List.mem_of_getElem? (i := 65) rfl⟩
theorem fs_70 : FldS PP 70 9 .long := ⟨_, _, rfl, List.mem_of_getElem? (i := 67) rfl⟩
theorem fs_74 : FldS PP 74 10 .int := ⟨_, _, rfl, List.mem_of_getElem? (i := 69) rfl⟩
theorem fs_77 : FldS PP 77 11 .int := ⟨_, _, rfl, List.mem_of_getElem? (i := 71) rfl⟩
theorem fs_130 : FldS PP 130 5 .int := ⟨_, _, rfl, List.mem_of_getElem? (i := 55) rfl⟩
theorem fs_133 : FldS PP 133 6 .int := ⟨_, _, rfl, List.mem_of_getElem? (i := 57) rfl⟩
theorem fs_136 : FldS PP 136 4 .int := ⟨_, _, rfl, List.mem_of_getElem? (i := 53) rfl⟩
theorem fs_145 : FldS PP 145 7 .int := ⟨_, _, rfl, List.mem_of_getElem? (i := 63) rfl⟩
theorem wr_0 (M : Meth) : Wrt PP M 0 := ⟨_, _, _, rfl, Or.inl (List.mem_of_getElem? (i := 34) rfl)⟩
theorem wr_1 (M : Meth) : Wrt PP M 1 := ⟨_, _, _, rfl, Or.inl (List.mem_of_getElem? (i := 36) rfl)⟩
theorem wr_2 (M : Meth) : Wrt PP M 2 := ⟨_, _, _, rfl, Or.inl (List.mem_of_getElem? (i := 38) rfl)⟩
theorem wr_3 (M : Meth) : Wrt PP M 3 := ⟨_, _, _, rfl, Or.inl (List.mem_of_getElem? (i := 40) rfl)⟩
theorem wr_4 (M : Meth) : Wrt PP M 4 := ⟨_, _, _, rfl, Or.inl (List.mem_of_getElem? (i := 54) rfl)⟩
theorem wr_5 (M : Meth) : Wrt PP M 5 := ⟨_, _, _, rfl, Or.inl (List.mem_of_getElem? (i := 56) rfl)⟩
theorem wr_6 (M : Meth) : Wrt PP M 6 := ⟨_, _, _, rfl, Or.inl (List.mem_of_getElem? (i := 58) rfl)⟩
theorem wr_7 (M : Meth) : Wrt PP M 7 := ⟨_, _, _, rfl, Or.inl (List.mem_of_getElem? (i := 64) rfl)⟩
theorem wr_8 (M : Meth) : Wrt PP M 8 := ⟨_, _, _, rfl, Or.inl (List.mem_of_getElem? (i := 66) rfl)⟩
theorem wr_9 (M : Meth) : Wrt PP M 9 := ⟨_, _, _, rfl, Or.inl (List.mem_of_getElem? (i := 68) rfl)⟩
theorem wr_10 (M : Meth) : Wrt PP M 10 := ⟨_, _, _, rfl, Or.inl (List.mem_of_getElem? (i := 70) rfl)⟩
theorem wr_11 (M : Meth) : Wrt PP M 11 := ⟨_, _, _, rfl, Or.inl (List.mem_of_getElem? (i := 72) rfl)⟩
theorem oid_0 : 1 = (cK PP.2 + 1) * 0 + 1 := rfl
theorem pl_0 : plainName "ShadowRedzoneY" = true := by first | (simp [plainName, overriddenIn]; done) | decide +kernel
theorem pl_1 : plainName "ShadowRedzoneYL6" = true := by first | (simp [plainName, overriddenIn]; done) | decide +kernel
theorem hm_0 : (mY m0).cls = cN PP.2 := rfl
theorem hn_0 : 0 < mN m0 := by decide
theorem pd_0 : parseMethodDescriptor (mY m0).desc = some ⟨[.int, .int, .int], (some .int)⟩ := by decide +kernel
theorem hm_1 : (mY m1).cls = cN PP.2 := rfl
theorem hn_1 : 0 < mN m1 := by decide
theorem pd_1 : parseMethodDescriptor (mY m1).desc = some ⟨[], none⟩ := by decide +kernel
theorem hm_2 : (mY m2).cls = cN PP.2 := rfl
theorem hn_2 : 0 < mN m2 := by decide
theorem pd_2 : parseMethodDescriptor (mY m2).desc = some ⟨[], none⟩ := by decide +kernel
theorem hm_3 : (mY m3).cls = cN PP.2 := rfl
theorem hn_3 : 0 < mN m3 := by decide
theorem pd_3 : parseMethodDescriptor (mY m3).desc = some ⟨[], none⟩ := by decide +kernel
theorem hm_4 : (mY m4).cls = cN PP.2 := rfl
theorem hn_4 : 0 < mN m4 := by decide
theorem pd_4 : parseMethodDescriptor (mY m4).desc = some ⟨[], none⟩ := by decide +kernel
theorem hm_5 : (mY m5).cls = cN PP.2 := rfl
theorem hn_5 : 0 < mN m5 := by decide
theorem pd_5 : parseMethodDescriptor (mY m5).desc = some ⟨[.int, .int, .int], none⟩ := by decide +kernel
theorem hm_6 : (mY m6).cls = cN PP.2 := rfl
theorem hn_6 : 0 < mN m6 := by decide
theorem pd_6 : parseMethodDescriptor (mY m6).desc = some ⟨[.int], (some .int)⟩ := by decide +kernel
theorem hm_7 : (mY m7).cls = cN PP.2 := rfl
theorem hn_7 : 0 < mN m7 := by decide
theorem pd_7 : parseMethodDescriptor (mY m7).desc = some ⟨[.int], (some .int)⟩ := by decide +kernel
theorem hm_8 : (mY m8).cls = cN PP.2 := rfl
theorem hn_8 : 0 < mN m8 := by decide
theorem pd_8 : parseMethodDescriptor (mY m8).desc = some ⟨[.int], (some .int)⟩ := by decide +kernel
theorem hm_9 : (mY m9).cls = cN PP.2 := rfl
theorem hn_9 : 0 < mN m9 := by decide
theorem pd_9 : parseMethodDescriptor (mY m9).desc = some ⟨[.int], (some .boolean)⟩ := by decide +kernel
theorem hm_10 : (mY m10).cls = cN PP.2 := rfl
theorem hn_10 : 0 < mN m10 := by decide
theorem pd_10 : parseMethodDescriptor (mY m10).desc = some ⟨[.int], (some .int)⟩ := by decide +kernel
theorem hm_11 : (mY m11).cls = cN PP.2 := rfl
theorem hn_11 : 0 < mN m11 := by decide
theorem pd_11 : parseMethodDescriptor (mY m11).desc = some ⟨[.int], (some .boolean)⟩ := by decide +kernel
theorem hm_12 : (mY m12).cls = cN PP.2 := rfl
theorem hn_12 : 0 < mN m12 := by decide
theorem pd_12 : parseMethodDescriptor (mY m12).desc = some ⟨[.int, .int, .int], none⟩ := by decide +kernel
theorem hm_13 : (mY m13).cls = cN PP.2 := rfl
theorem hn_13 : 0 < mN m13 := by decide
theorem pd_13 : parseMethodDescriptor (mY m13).desc = some ⟨[.int, .int, .int], none⟩ := by decide +kernel
theorem hm_14 : (mY m14).cls = cN PP.2 := rfl
theorem hn_14 : 0 < mN m14 := by decide
theorem pd_14 : parseMethodDescriptor (mY m14).desc = some ⟨[.int], (some .int)⟩ := by decide +kernel
theorem hm_15 : (mY m15).cls = cN PP.2 := rfl
theorem hn_15 : 0 < mN m15 := by decide
theorem pd_15 : parseMethodDescriptor (mY m15).desc = some ⟨[.int], none⟩ := by decide +kernel
theorem hm_16 : (mY m16).cls = cN PP.2 := rfl
theorem hn_16 : 0 < mN m16 := by decide
theorem pd_16 : parseMethodDescriptor (mY m16).desc = some ⟨[.int, .int, .int], none⟩ := by decide +kernel
theorem hm_17 : (mY m17).cls = cN PP.2 := rfl
theorem hn_17 : 0 < mN m17 := by decide
theorem pd_17 : parseMethodDescriptor (mY m17).desc = some ⟨[.int, .int], none⟩ := by decide +kernel
theorem hm_18 : (mY m18).cls = cN PP.2 := rfl
theorem hn_18 : 0 < mN m18 := by decide
theorem pd_18 : parseMethodDescriptor (mY m18).desc = some ⟨[.int], none⟩ := by decide +kernel
theorem hm_19 : (mY m19).cls = cN PP.2 := rfl
theorem hn_19 : 0 < mN m19 := by decide
theorem pd_19 : parseMethodDescriptor (mY m19).desc = some ⟨[], none⟩ := by decide +kernel
theorem hm_20 : (mY m20).cls = cN PP.2 := rfl
theorem hn_20 : 0 < mN m20 := by decide
theorem pd_20 : parseMethodDescriptor (mY m20).desc = some ⟨[.int], (some .int)⟩ := by decide +kernel
theorem hm_21 : (mY m21).cls = cN PP.2 := rfl
theorem hn_21 : 0 < mN m21 := by decide
theorem pd_21 : parseMethodDescriptor (mY m21).desc = some ⟨[], (some .int)⟩ := by decide +kernel
theorem hm_22 : (mY m22).cls = cN PP.2 := rfl
theorem hn_22 : 0 < mN m22 := by decide
theorem pd_22 : parseMethodDescriptor (mY m22).desc = some ⟨[.int, .int], none⟩ := by decide +kernel
theorem hm_23 : (mY m23).cls = cN PP.2 := rfl
theorem hn_23 : 0 < mN m23 := by decide
theorem pd_23 : parseMethodDescriptor (mY m23).desc = some ⟨[.int], (some .int)⟩ := by decide +kernel
theorem hm_24 : (mY m24).cls = cN PP.2 := rfl
theorem hn_24 : 0 < mN m24 := by decide
theorem pd_24 : parseMethodDescriptor (mY m24).desc = some ⟨[.int], (some .int)⟩ := by decide +kernel
theorem hm_25 : (mY m25).cls = cN PP.2 := rfl
theorem hn_25 : 0 < mN m25 := by decide
theorem pd_25 : parseMethodDescriptor (mY m25).desc = some ⟨[.int], none⟩ := by decide +kernel
theorem hm_26 : (mY m26).cls = cN PP.2 := rfl
theorem hn_26 : 0 < mN m26 := by decide
theorem pd_26 : parseMethodDescriptor (mY m26).desc = some ⟨[.int], (some .int)⟩ := by decide +kernel
theorem hm_27 : (mY m27).cls = cN PP.2 := rfl
theorem hn_27 : 0 < mN m27 := by decide
theorem pd_27 : parseMethodDescriptor (mY m27).desc = some ⟨[.int], none⟩ := by decide +kernel
theorem hm_28 : (mY m28).cls = cN PP.2 := rfl
theorem hn_28 : 0 < mN m28 := by decide
theorem pd_28 : parseMethodDescriptor (mY m28).desc = some ⟨[.int, .int, .int], (some .int)⟩ := by decide +kernel
theorem hm_29 : (mY m29).cls = cN PP.2 := rfl
theorem hn_29 : 0 < mN m29 := by decide
theorem pd_29 : parseMethodDescriptor (mY m29).desc = some ⟨[.int], (some .int)⟩ := by decide +kernel
theorem hm_30 : (mY m30).cls = cN PP.2 := rfl
theorem hn_30 : 0 < mN m30 := by decide
theorem pd_30 : parseMethodDescriptor (mY m30).desc = some ⟨[], (some .int)⟩ := by decide +kernel
theorem hm_31 : (mY m31).cls = cN PP.2 := rfl
theorem hn_31 : 0 < mN m31 := by decide
theorem pd_31 : parseMethodDescriptor (mY m31).desc = some ⟨[], (some .int)⟩ := by decide +kernel
theorem hm_32 : (mY m32).cls = cN PP.2 := rfl
theorem hn_32 : 0 < mN m32 := by decide
theorem pd_32 : parseMethodDescriptor (mY m32).desc = some ⟨[], (some .int)⟩ := by decide +kernel
theorem hm_33 : (mY m33).cls = cN PP.2 := rfl
theorem hn_33 : 0 < mN m33 := by decide
theorem pd_33 : parseMethodDescriptor (mY m33).desc = some ⟨[.int], (some .int)⟩ := by decide +kernel
theorem hm_34 : (mY m34).cls = cN PP.2 := rfl
theorem hn_34 : 0 < mN m34 := by decide
theorem pd_34 : parseMethodDescriptor (mY m34).desc = some ⟨[.int], (some .boolean)⟩ := by decide +kernel
theorem hm_35 : (mY m35).cls = cN PP.2 := rfl
theorem hn_35 : 0 < mN m35 := by decide
theorem pd_35 : parseMethodDescriptor (mY m35).desc = some ⟨[.int], (some .int)⟩ := by decide +kernel
theorem hm_36 : (mY m36).cls = cN PP.2 := rfl
theorem hn_36 : 0 < mN m36 := by decide
theorem pd_36 : parseMethodDescriptor (mY m36).desc = some ⟨[.int], (some .int)⟩ := by decide +kernel
theorem hm_37 : (mY m37).cls = cN PP.2 := rfl
theorem hn_37 : 0 < mN m37 := by decide
theorem pd_37 : parseMethodDescriptor (mY m37).desc = some ⟨[.int], none⟩ := by decide +kernel
theorem hm_38 : (mY m38).cls = cN PP.2 := rfl
theorem hn_38 : 0 < mN m38 := by decide
theorem pd_38 : parseMethodDescriptor (mY m38).desc = some ⟨[.int], none⟩ := by decide +kernel
theorem hm_39 : (mY m39).cls = cN PP.2 := rfl
theorem hn_39 : 0 < mN m39 := by decide
theorem pd_39 : parseMethodDescriptor (mY m39).desc = some ⟨[.int], none⟩ := by decide +kernel
theorem hm_40 : (mY m40).cls = cN PP.2 := rfl
theorem hn_40 : 0 < mN m40 := by decide
theorem pd_40 : parseMethodDescriptor (mY m40).desc = some ⟨[], none⟩ := by decide +kernel
theorem hm_41 : (mY m41).cls = cN PP.2 := rfl
theorem hn_41 : 0 < mN m41 := by decide
theorem pd_41 : parseMethodDescriptor (mY m41).desc = some ⟨[.int], (some .int)⟩ := by decide +kernel
theorem hm_42 : (mY m42).cls = cN PP.2 := rfl
theorem hn_42 : 0 < mN m42 := by decide
theorem pd_42 : parseMethodDescriptor (mY m42).desc = some ⟨[.int], (some .int)⟩ := by decide +kernel
theorem hn_43 : 0 < mN m43 := by decide
theorem pd_43 : parseMethodDescriptor (mY m43).desc = some ⟨[.int], (some .int)⟩ := by decide +kernel
theorem hn_44 : 0 < mN m44 := by decide
theorem pd_44 : parseMethodDescriptor (mY m44).desc = some ⟨[.int, .int], (some .int)⟩ := by decide +kernel
theorem hm_45 : (mY m45).cls = cN PP.2 := rfl
theorem hn_45 : 0 < mN m45 := by decide
theorem pd_45 : parseMethodDescriptor (mY m45).desc = some ⟨[.int], (some .boolean)⟩ := by decide +kernel
theorem hm_46 : (mY m46).cls = cN PP.2 := rfl
theorem hn_46 : 0 < mN m46 := by decide
theorem pd_46 : parseMethodDescriptor (mY m46).desc = some ⟨[.int, .int], (some .int)⟩ := by decide +kernel
theorem hm_47 : (mY m47).cls = cN PP.2 := rfl
theorem hn_47 : 0 < mN m47 := by decide
theorem pd_47 : parseMethodDescriptor (mY m47).desc = some ⟨[.int], (some .int)⟩ := by decide +kernel
theorem hm_48 : (mY m48).cls = cN PP.2 := rfl
theorem hn_48 : 0 < mN m48 := by decide
theorem pd_48 : parseMethodDescriptor (mY m48).desc = some ⟨[.int], none⟩ := by decide +kernel
theorem hm_49 : (mY m49).cls = cN PP.2 := rfl
theorem hn_49 : 0 < mN m49 := by decide
theorem pd_49 : parseMethodDescriptor (mY m49).desc = some ⟨[.int, .int], (some .int)⟩ := by decide +kernel
theorem hm_50 : (mY m50).cls = cN PP.2 := rfl
theorem hn_50 : 0 < mN m50 := by decide
theorem pd_50 : parseMethodDescriptor (mY m50).desc = some ⟨[.int, .int], (some .long)⟩ := by decide +kernel
theorem hm_51 : (mY m51).cls = cN PP.2 := rfl
theorem hn_51 : 0 < mN m51 := by decide
theorem pd_51 : parseMethodDescriptor (mY m51).desc = some ⟨[.int, .int], (some .int)⟩ := by decide +kernel
theorem hm_52 : (mY m52).cls = cN PP.2 := rfl
theorem hn_52 : 0 < mN m52 := by decide
theorem pd_52 : parseMethodDescriptor (mY m52).desc = some ⟨[.int, .int, .long], none⟩ := by decide +kernel
theorem hm_53 : (mY m53).cls = cN PP.2 := rfl
theorem hn_53 : 0 < mN m53 := by decide
theorem pd_53 : parseMethodDescriptor (mY m53).desc = some ⟨[.int, .int, .long], (some .int)⟩ := by decide +kernel
theorem hm_54 : (mY m54).cls = cN PP.2 := rfl
theorem hn_54 : 0 < mN m54 := by decide
theorem pd_54 : parseMethodDescriptor (mY m54).desc = some ⟨[], (some .long)⟩ := by decide +kernel
theorem hm_55 : (mY m55).cls = cN PP.2 := rfl
theorem hn_55 : 0 < mN m55 := by decide
theorem pd_55 : parseMethodDescriptor (mY m55).desc = some ⟨[], (some .int)⟩ := by decide +kernel
theorem hm_56 : (mY m56).cls = cN PP.2 := rfl
theorem hn_56 : 0 < mN m56 := by decide
theorem pd_56 : parseMethodDescriptor (mY m56).desc = some ⟨[], (some .int)⟩ := by decide +kernel
theorem hm_57 : (mY m57).cls = cN PP.2 := rfl
theorem hn_57 : 0 < mN m57 := by decide
theorem pd_57 : parseMethodDescriptor (mY m57).desc = some ⟨[], (some .int)⟩ := by decide +kernel
theorem hm_58 : (mY m58).cls = cN PP.2 := rfl
theorem hn_58 : 0 < mN m58 := by decide
theorem pd_58 : parseMethodDescriptor (mY m58).desc = some ⟨[], (some .int)⟩ := by decide +kernel
theorem hn_59 : 0 < mN m59 := by decide
theorem d0_0 : decode (mB m0) 0 = .ok (.iload_n 1, 1) := by decide +kernel
theorem d0_1 : decode (mB m0) 1 = .ok (.iload_n 2, 1) := by decide +kernel
theorem d0_2 : decode (mB m0) 2 = .ok (.if_icmp .ge 5, 3) := by decide +kernel
theorem d0_5 : decode (mB m0) 5 = .ok (.iload_n 2, 1) := by decide +kernel
theorem d0_6 : decode (mB m0) 6 = .ok (.ireturn, 1) := by decide +kernel
theorem d0_7 : decode (mB m0) 7 = .ok (.iload_n 1, 1) := by decide +kernel
theorem d0_8 : decode (mB m0) 8 = .ok (.iload_n 3, 1) := by decide +kernel
theorem d0_9 : decode (mB m0) 9 = .ok (.if_icmp .le 5, 3) := by decide +kernel
theorem d0_12 : decode (mB m0) 12 = .ok (.iload_n 3, 1) := by decide +kernel
theorem d0_13 : decode (mB m0) 13 = .ok (.ireturn, 1) := by decide +kernel
theorem d0_14 : decode (mB m0) 14 = .ok (.iload_n 1, 1) := by decide +kernel
theorem d0_15 : decode (mB m0) 15 = .ok (.ireturn, 1) := by decide +kernel
theorem d1_0 : decode (mB m1) 0 = .ok (.iconst 0, 1) := by decide +kernel
theorem d1_1 : decode (mB m1) 1 = .ok (.istore_n 1, 1) := by decide +kernel
theorem d1_2 : decode (mB m1) 2 = .ok (.iload_n 1, 1) := by decide +kernel
theorem d1_3 : decode (mB m1) 3 = .ok (.bipush 32, 2) := by decide +kernel
theorem d1_5 : decode (mB m1) 5 = .ok (.if_icmp .ge 25, 3) := by decide +kernel
theorem d1_8 : decode (mB m1) 8 = .ok (.aload_n 0, 1) := by decide +kernel
theorem d1_9 : decode (mB m1) 9 = .ok (.getfield 13, 3) := by decide +kernel
theorem d1_12 : decode (mB m1) 12 = .ok (.iload_n 1, 1) := by decide +kernel
theorem d1_13 : decode (mB m1) 13 = .ok (.sipush 254, 3) := by decide +kernel
theorem d1_16 : decode (mB m1) 16 = .ok (.iastore, 1) := by decide +kernel
theorem d1_17 : decode (mB m1) 17 = .ok (.aload_n 0, 1) := by decide +kernel
theorem d1_18 : decode (mB m1) 18 = .ok (.getfield 17, 3) := by decide +kernel
theorem d1_21 : decode (mB m1) 21 = .ok (.iload_n 1, 1) := by decide +kernel
theorem d1_22 : decode (mB m1) 22 = .ok (.iconst (-1), 1) := by decide +kernel
theorem d1_23 : decode (mB m1) 23 = .ok (.iastore, 1) := by decide +kernel
theorem d1_24 : decode (mB m1) 24 = .ok (.iinc 1 1, 3) := by decide +kernel
theorem d1_27 : decode (mB m1) 27 = .ok (.goto (-25), 3) := by decide +kernel
theorem d1_30 : decode (mB m1) 30 = .ok (.iconst 0, 1) := by decide +kernel
theorem d1_31 : decode (mB m1) 31 = .ok (.istore_n 1, 1) := by decide +kernel
theorem d1_32 : decode (mB m1) 32 = .ok (.iload_n 1, 1) := by decide +kernel
theorem d1_33 : decode (mB m1) 33 = .ok (.sipush 256, 3) := by decide +kernel
theorem d1_36 : decode (mB m1) 36 = .ok (.if_icmp .ge 16, 3) := by decide +kernel
theorem d1_39 : decode (mB m1) 39 = .ok (.aload_n 0, 1) := by decide +kernel
theorem d1_40 : decode (mB m1) 40 = .ok (.getfield 7, 3) := by decide +kernel
theorem d1_43 : decode (mB m1) 43 = .ok (.iload_n 1, 1) := by decide +kernel
theorem d1_44 : decode (mB m1) 44 = .ok (.iconst 0, 1) := by decide +kernel
theorem d1_45 : decode (mB m1) 45 = .ok (.bastore, 1) := by decide +kernel
theorem d1_46 : decode (mB m1) 46 = .ok (.iinc 1 1, 3) := by decide +kernel
theorem d1_49 : decode (mB m1) 49 = .ok (.goto (-17), 3) := by decide +kernel
theorem d1_52 : decode (mB m1) 52 = .ok (.return_, 1) := by decide +kernel
theorem d2_0 : decode (mB m2) 0 = .ok (.iconst 0, 1) := by decide +kernel
theorem d2_1 : decode (mB m2) 1 = .ok (.istore_n 1, 1) := by decide +kernel
theorem d2_2 : decode (mB m2) 2 = .ok (.iload_n 1, 1) := by decide +kernel
theorem d2_3 : decode (mB m2) 3 = .ok (.bipush 32, 2) := by decide +kernel
theorem d2_5 : decode (mB m2) 5 = .ok (.if_icmp .ge 30, 3) := by decide +kernel
theorem d2_8 : decode (mB m2) 8 = .ok (.aload_n 0, 1) := by decide +kernel
theorem d2_9 : decode (mB m2) 9 = .ok (.getfield 26, 3) := by decide +kernel
theorem d2_12 : decode (mB m2) 12 = .ok (.iload_n 1, 1) := by decide +kernel
theorem d2_13 : decode (mB m2) 13 = .ok (.iconst 0, 1) := by decide +kernel
theorem d2_14 : decode (mB m2) 14 = .ok (.bastore, 1) := by decide +kernel
theorem d2_15 : decode (mB m2) 15 = .ok (.aload_n 0, 1) := by decide +kernel
theorem d2_16 : decode (mB m2) 16 = .ok (.getfield 20, 3) := by decide +kernel
theorem d2_19 : decode (mB m2) 19 = .ok (.iload_n 1, 1) := by decide +kernel
theorem d2_20 : decode (mB m2) 20 = .ok (.iconst 0, 1) := by decide +kernel
theorem d2_21 : decode (mB m2) 21 = .ok (.iastore, 1) := by decide +kernel
theorem d2_22 : decode (mB m2) 22 = .ok (.aload_n 0, 1) := by decide +kernel
theorem d2_23 : decode (mB m2) 23 = .ok (.getfield 23, 3) := by decide +kernel
theorem d2_26 : decode (mB m2) 26 = .ok (.iload_n 1, 1) := by decide +kernel
theorem d2_27 : decode (mB m2) 27 = .ok (.iconst 0, 1) := by decide +kernel
theorem d2_28 : decode (mB m2) 28 = .ok (.iastore, 1) := by decide +kernel
theorem d2_29 : decode (mB m2) 29 = .ok (.iinc 1 1, 3) := by decide +kernel
theorem d2_32 : decode (mB m2) 32 = .ok (.goto (-30), 3) := by decide +kernel
theorem d2_35 : decode (mB m2) 35 = .ok (.return_, 1) := by decide +kernel
theorem d3_0 : decode (mB m3) 0 = .ok (.iconst 0, 1) := by decide +kernel
theorem d3_1 : decode (mB m3) 1 = .ok (.istore_n 1, 1) := by decide +kernel
theorem d3_2 : decode (mB m3) 2 = .ok (.iload_n 1, 1) := by decide +kernel
theorem d3_3 : decode (mB m3) 3 = .ok (.bipush 32, 2) := by decide +kernel
theorem d3_5 : decode (mB m3) 5 = .ok (.if_icmp .ge 16, 3) := by decide +kernel
theorem d3_8 : decode (mB m3) 8 = .ok (.aload_n 0, 1) := by decide +kernel
theorem d3_9 : decode (mB m3) 9 = .ok (.getfield 29, 3) := by decide +kernel
theorem d3_12 : decode (mB m3) 12 = .ok (.iload_n 1, 1) := by decide +kernel
theorem d3_13 : decode (mB m3) 13 = .ok (.iconst (-1), 1) := by decide +kernel
theorem d3_14 : decode (mB m3) 14 = .ok (.iastore, 1) := by decide +kernel
theorem d3_15 : decode (mB m3) 15 = .ok (.iinc 1 1, 3) := by decide +kernel
theorem d3_18 : decode (mB m3) 18 = .ok (.goto (-16), 3) := by decide +kernel
theorem d3_21 : decode (mB m3) 21 = .ok (.aload_n 0, 1) := by decide +kernel
theorem d3_22 : decode (mB m3) 22 = .ok (.iconst 0, 1) := by decide +kernel
theorem d3_23 : decode (mB m3) 23 = .ok (.putfield 136, 3) := by decide +kernel
theorem d3_26 : decode (mB m3) 26 = .ok (.aload_n 0, 1) := by decide +kernel
theorem d3_27 : decode (mB m3) 27 = .ok (.iconst 0, 1) := by decide +kernel
theorem d3_28 : decode (mB m3) 28 = .ok (.putfield 130, 3) := by decide +kernel
theorem d3_31 : decode (mB m3) 31 = .ok (.aload_n 0, 1) := by decide +kernel
theorem d3_32 : decode (mB m3) 32 = .ok (.iconst 0, 1) := by decide +kernel
theorem d3_33 : decode (mB m3) 33 = .ok (.putfield 133, 3) := by decide +kernel
theorem d3_36 : decode (mB m3) 36 = .ok (.return_, 1) := by decide +kernel
theorem d4_0 : decode (mB m4) 0 = .ok (.iconst 0, 1) := by decide +kernel
theorem d4_1 : decode (mB m4) 1 = .ok (.istore_n 1, 1) := by decide +kernel
theorem d4_2 : decode (mB m4) 2 = .ok (.iload_n 1, 1) := by decide +kernel
theorem d4_3 : decode (mB m4) 3 = .ok (.bipush 32, 2) := by decide +kernel
theorem d4_5 : decode (mB m4) 5 = .ok (.if_icmp .ge 23, 3) := by decide +kernel
theorem d4_8 : decode (mB m4) 8 = .ok (.aload_n 0, 1) := by decide +kernel
theorem d4_9 : decode (mB m4) 9 = .ok (.getfield 32, 3) := by decide +kernel
theorem d4_12 : decode (mB m4) 12 = .ok (.iload_n 1, 1) := by decide +kernel
theorem d4_13 : decode (mB m4) 13 = .ok (.iconst 0, 1) := by decide +kernel
theorem d4_14 : decode (mB m4) 14 = .ok (.iastore, 1) := by decide +kernel
theorem d4_15 : decode (mB m4) 15 = .ok (.aload_n 0, 1) := by decide +kernel
theorem d4_16 : decode (mB m4) 16 = .ok (.getfield 35, 3) := by decide +kernel
theorem d4_19 : decode (mB m4) 19 = .ok (.iload_n 1, 1) := by decide +kernel
theorem d4_20 : decode (mB m4) 20 = .ok (.iconst 0, 1) := by decide +kernel
theorem d4_21 : decode (mB m4) 21 = .ok (.iastore, 1) := by decide +kernel
theorem d4_22 : decode (mB m4) 22 = .ok (.iinc 1 1, 3) := by decide +kernel
theorem d4_25 : decode (mB m4) 25 = .ok (.goto (-23), 3) := by decide +kernel
theorem d4_28 : decode (mB m4) 28 = .ok (.aload_n 0, 1) := by decide +kernel
theorem d4_29 : decode (mB m4) 29 = .ok (.getfield 32, 3) := by decide +kernel
theorem d4_32 : decode (mB m4) 32 = .ok (.iconst 0, 1) := by decide +kernel
theorem d4_33 : decode (mB m4) 33 = .ok (.iconst 0, 1) := by decide +kernel
theorem d4_34 : decode (mB m4) 34 = .ok (.iastore, 1) := by decide +kernel
theorem d4_35 : decode (mB m4) 35 = .ok (.aload_n 0, 1) := by decide +kernel
theorem d4_36 : decode (mB m4) 36 = .ok (.getfield 35, 3) := by decide +kernel
theorem d4_39 : decode (mB m4) 39 = .ok (.iconst 0, 1) := by decide +kernel
theorem d4_40 : decode (mB m4) 40 = .ok (.aload_n 0, 1) := by decide +kernel
theorem d4_41 : decode (mB m4) 41 = .ok (.getfield 42, 3) := by decide +kernel
theorem d4_44 : decode (mB m4) 44 = .ok (.iastore, 1) := by decide +kernel
theorem d4_45 : decode (mB m4) 45 = .ok (.aload_n 0, 1) := by decide +kernel
theorem d4_46 : decode (mB m4) 46 = .ok (.iconst 1, 1) := by decide +kernel
theorem d4_47 : decode (mB m4) 47 = .ok (.putfield 145, 3) := by decide +kernel
theorem d4_50 : decode (mB m4) 50 = .ok (.return_, 1) := by decide +kernel
theorem d5_0 : decode (mB m5) 0 = .ok (.aload_n 0, 1) := by decide +kernel
theorem d5_1 : decode (mB m5) 1 = .ok (.invokespecial 1, 3) := by decide +kernel
theorem d5_4 : decode (mB m5) 4 = .ok (.aload_n 0, 1) := by decide +kernel
theorem d5_5 : decode (mB m5) 5 = .ok (.sipush 256, 3) := by decide +kernel
theorem d5_8 : decode (mB m5) 8 = .ok (.newarray .byte, 2) := by decide +kernel
theorem d5_10 : decode (mB m5) 10 = .ok (.putfield 7, 3) := by decide +kernel
theorem d5_13 : decode (mB m5) 13 = .ok (.aload_n 0, 1) := by decide +kernel
theorem d5_14 : decode (mB m5) 14 = .ok (.bipush 32, 2) := by decide +kernel
theorem d5_16 : decode (mB m5) 16 = .ok (.newarray .int, 2) := by decide +kernel
theorem d5_18 : decode (mB m5) 18 = .ok (.putfield 13, 3) := by decide +kernel
theorem d5_21 : decode (mB m5) 21 = .ok (.aload_n 0, 1) := by decide +kernel
theorem d5_22 : decode (mB m5) 22 = .ok (.bipush 32, 2) := by decide +kernel
theorem d5_24 : decode (mB m5) 24 = .ok (.newarray .int, 2) := by decide +kernel
theorem d5_26 : decode (mB m5) 26 = .ok (.putfield 17, 3) := by decide +kernel
theorem d5_29 : decode (mB m5) 29 = .ok (.aload_n 0, 1) := by decide +kernel
theorem d5_30 : decode (mB m5) 30 = .ok (.bipush 32, 2) := by decide +kernel
theorem d5_32 : decode (mB m5) 32 = .ok (.newarray .int, 2) := by decide +kernel
theorem d5_34 : decode (mB m5) 34 = .ok (.putfield 20, 3) := by decide +kernel
theorem d5_37 : decode (mB m5) 37 = .ok (.aload_n 0, 1) := by decide +kernel
theorem d5_38 : decode (mB m5) 38 = .ok (.bipush 32, 2) := by decide +kernel
theorem d5_40 : decode (mB m5) 40 = .ok (.newarray .int, 2) := by decide +kernel
theorem d5_42 : decode (mB m5) 42 = .ok (.putfield 23, 3) := by decide +kernel
theorem d5_45 : decode (mB m5) 45 = .ok (.aload_n 0, 1) := by decide +kernel
theorem d5_46 : decode (mB m5) 46 = .ok (.bipush 32, 2) := by decide +kernel
theorem d5_48 : decode (mB m5) 48 = .ok (.newarray .byte, 2) := by decide +kernel
theorem d5_50 : decode (mB m5) 50 = .ok (.putfield 26, 3) := by decide +kernel
theorem d5_53 : decode (mB m5) 53 = .ok (.aload_n 0, 1) := by decide +kernel
theorem d5_54 : decode (mB m5) 54 = .ok (.bipush 32, 2) := by decide +kernel
theorem d5_56 : decode (mB m5) 56 = .ok (.newarray .int, 2) := by decide +kernel
theorem d5_58 : decode (mB m5) 58 = .ok (.putfield 29, 3) := by decide +kernel
theorem d5_61 : decode (mB m5) 61 = .ok (.aload_n 0, 1) := by decide +kernel
theorem d5_62 : decode (mB m5) 62 = .ok (.bipush 32, 2) := by decide +kernel
theorem d5_64 : decode (mB m5) 64 = .ok (.newarray .int, 2) := by decide +kernel
theorem d5_66 : decode (mB m5) 66 = .ok (.putfield 32, 3) := by decide +kernel
theorem d5_69 : decode (mB m5) 69 = .ok (.aload_n 0, 1) := by decide +kernel
theorem d5_70 : decode (mB m5) 70 = .ok (.bipush 32, 2) := by decide +kernel
theorem d5_72 : decode (mB m5) 72 = .ok (.newarray .int, 2) := by decide +kernel
theorem d5_74 : decode (mB m5) 74 = .ok (.putfield 35, 3) := by decide +kernel
theorem d5_77 : decode (mB m5) 77 = .ok (.aload_n 0, 1) := by decide +kernel
theorem d5_78 : decode (mB m5) 78 = .ok (.aload_n 0, 1) := by decide +kernel
theorem d5_79 : decode (mB m5) 79 = .ok (.iload_n 1, 1) := by decide +kernel
theorem d5_80 : decode (mB m5) 80 = .ok (.bipush 8, 2) := by decide +kernel
theorem d5_82 : decode (mB m5) 82 = .ok (.bipush 32, 2) := by decide +kernel
theorem d5_84 : decode (mB m5) 84 = .ok (.invokevirtual 38, 3) := by decide +kernel
theorem d5_87 : decode (mB m5) 87 = .ok (.putfield 42, 3) := by decide +kernel
theorem d5_90 : decode (mB m5) 90 = .ok (.aload_n 0, 1) := by decide +kernel
theorem d5_91 : decode (mB m5) 91 = .ok (.aload_n 0, 1) := by decide +kernel
theorem d5_92 : decode (mB m5) 92 = .ok (.iload_n 2, 1) := by decide +kernel
theorem d5_93 : decode (mB m5) 93 = .ok (.iconst 1, 1) := by decide +kernel
theorem d5_94 : decode (mB m5) 94 = .ok (.iconst 3, 1) := by decide +kernel
theorem d5_95 : decode (mB m5) 95 = .ok (.invokevirtual 38, 3) := by decide +kernel
theorem d5_98 : decode (mB m5) 98 = .ok (.putfield 46, 3) := by decide +kernel
theorem d5_101 : decode (mB m5) 101 = .ok (.aload_n 0, 1) := by decide +kernel
theorem d5_102 : decode (mB m5) 102 = .ok (.aload_n 0, 1) := by decide +kernel
theorem d5_103 : decode (mB m5) 103 = .ok (.iload_n 3, 1) := by decide +kernel
theorem d5_104 : decode (mB m5) 104 = .ok (.iconst 0, 1) := by decide +kernel
theorem d5_105 : decode (mB m5) 105 = .ok (.sipush 256, 3) := by decide +kernel
theorem d5_108 : decode (mB m5) 108 = .ok (.invokevirtual 38, 3) := by decide +kernel
theorem d5_111 : decode (mB m5) 111 = .ok (.putfield 49, 3) := by decide +kernel
theorem d5_114 : decode (mB m5) 114 = .ok (.aload_n 0, 1) := by decide +kernel
theorem d5_115 : decode (mB m5) 115 = .ok (.bipush 8, 2) := by decide +kernel
theorem d5_117 : decode (mB m5) 117 = .ok (.aload_n 0, 1) := by decide +kernel
theorem d5_118 : decode (mB m5) 118 = .ok (.getfield 42, 3) := by decide +kernel
theorem d5_121 : decode (mB m5) 121 = .ok (.imul, 1) := by decide +kernel
theorem d5_122 : decode (mB m5) 122 = .ok (.putfield 52, 3) := by decide +kernel
theorem d5_125 : decode (mB m5) 125 = .ok (.aload_n 0, 1) := by decide +kernel
theorem d5_126 : decode (mB m5) 126 = .ok (.invokevirtual 55, 3) := by decide +kernel
theorem d5_129 : decode (mB m5) 129 = .ok (.aload_n 0, 1) := by decide +kernel
theorem d5_130 : decode (mB m5) 130 = .ok (.invokevirtual 58, 3) := by decide +kernel
theorem d5_133 : decode (mB m5) 133 = .ok (.aload_n 0, 1) := by decide +kernel
theorem d5_134 : decode (mB m5) 134 = .ok (.invokevirtual 61, 3) := by decide +kernel
theorem d5_137 : decode (mB m5) 137 = .ok (.aload_n 0, 1) := by decide +kernel
theorem d5_138 : decode (mB m5) 138 = .ok (.invokevirtual 64, 3) := by decide +kernel
theorem d5_141 : decode (mB m5) 141 = .ok (.aload_n 0, 1) := by decide +kernel
theorem d5_142 : decode (mB m5) 142 = .ok (.iconst 0, 1) := by decide +kernel
theorem d5_143 : decode (mB m5) 143 = .ok (.putfield 67, 3) := by decide +kernel
theorem d5_146 : decode (mB m5) 146 = .ok (.aload_n 0, 1) := by decide +kernel
theorem d5_147 : decode (mB m5) 147 = .ok (.lconst 0, 1) := by decide +kernel
theorem d5_148 : decode (mB m5) 148 = .ok (.putfield 70, 3) := by decide +kernel
theorem d5_151 : decode (mB m5) 151 = .ok (.aload_n 0, 1) := by decide +kernel
theorem d5_152 : decode (mB m5) 152 = .ok (.iconst 0, 1) := by decide +kernel
theorem d5_153 : decode (mB m5) 153 = .ok (.putfield 74, 3) := by decide +kernel
theorem d5_156 : decode (mB m5) 156 = .ok (.aload_n 0, 1) := by decide +kernel
theorem d5_157 : decode (mB m5) 157 = .ok (.iconst 0, 1) := by decide +kernel
theorem d5_158 : decode (mB m5) 158 = .ok (.putfield 77, 3) := by decide +kernel
theorem d5_161 : decode (mB m5) 161 = .ok (.return_, 1) := by decide +kernel
theorem d6_0 : decode (mB m6) 0 = .ok (.iload_n 1, 1) := by decide +kernel
theorem d6_1 : decode (mB m6) 1 = .ok (.bipush 7, 2) := by decide +kernel
theorem d6_3 : decode (mB m6) 3 = .ok (.iadd, 1) := by decide +kernel
theorem d6_4 : decode (mB m6) 4 = .ok (.bipush 8, 2) := by decide +kernel
theorem d6_6 : decode (mB m6) 6 = .ok (.idiv, 1) := by decide +kernel
theorem d6_7 : decode (mB m6) 7 = .ok (.ireturn, 1) := by decide +kernel
theorem d7_0 : decode (mB m7) 0 = .ok (.iconst 2, 1) := by decide +kernel
theorem d7_1 : decode (mB m7) 1 = .ok (.aload_n 0, 1) := by decide +kernel
theorem d7_2 : decode (mB m7) 2 = .ok (.getfield 46, 3) := by decide +kernel
theorem d7_5 : decode (mB m7) 5 = .ok (.imul, 1) := by decide +kernel
theorem d7_6 : decode (mB m7) 6 = .ok (.aload_n 0, 1) := by decide +kernel
theorem d7_7 : decode (mB m7) 7 = .ok (.iload_n 1, 1) := by decide +kernel
theorem d7_8 : decode (mB m7) 8 = .ok (.invokevirtual 148, 3) := by decide +kernel
theorem d7_11 : decode (mB m7) 11 = .ok (.iadd, 1) := by decide +kernel
theorem d7_12 : decode (mB m7) 12 = .ok (.ireturn, 1) := by decide +kernel
theorem d8_0 : decode (mB m8) 0 = .ok (.iconst 0, 1) := by decide +kernel
theorem d8_1 : decode (mB m8) 1 = .ok (.istore_n 2, 1) := by decide +kernel
theorem d8_2 : decode (mB m8) 2 = .ok (.iload_n 2, 1) := by decide +kernel
theorem d8_3 : decode (mB m8) 3 = .ok (.aload_n 0, 1) := by decide +kernel
theorem d8_4 : decode (mB m8) 4 = .ok (.getfield 145, 3) := by decide +kernel
theorem d8_7 : decode (mB m8) 7 = .ok (.if_icmp .ge 27, 3) := by decide +kernel
theorem d8_10 : decode (mB m8) 10 = .ok (.iload_n 2, 1) := by decide +kernel
theorem d8_11 : decode (mB m8) 11 = .ok (.bipush 32, 2) := by decide +kernel
theorem d8_13 : decode (mB m8) 13 = .ok (.if_icmp .ge 21, 3) := by decide +kernel
theorem d8_16 : decode (mB m8) 16 = .ok (.aload_n 0, 1) := by decide +kernel
theorem d8_17 : decode (mB m8) 17 = .ok (.getfield 35, 3) := by decide +kernel
theorem d8_20 : decode (mB m8) 20 = .ok (.iload_n 2, 1) := by decide +kernel
theorem d8_21 : decode (mB m8) 21 = .ok (.iaload, 1) := by decide +kernel
theorem d8_22 : decode (mB m8) 22 = .ok (.iload_n 1, 1) := by decide +kernel
theorem d8_23 : decode (mB m8) 23 = .ok (.if_icmp .lt 5, 3) := by decide +kernel
theorem d8_26 : decode (mB m8) 26 = .ok (.iload_n 2, 1) := by decide +kernel
theorem d8_27 : decode (mB m8) 27 = .ok (.ireturn, 1) := by decide +kernel
theorem d8_28 : decode (mB m8) 28 = .ok (.iinc 2 1, 3) := by decide +kernel
theorem d8_31 : decode (mB m8) 31 = .ok (.goto (-29), 3) := by decide +kernel
theorem d8_34 : decode (mB m8) 34 = .ok (.iconst (-1), 1) := by decide +kernel
theorem d8_35 : decode (mB m8) 35 = .ok (.ireturn, 1) := by decide +kernel
theorem d9_0 : decode (mB m9) 0 = .ok (.iload_n 1, 1) := by decide +kernel
theorem d9_1 : decode (mB m9) 1 = .ok (.ifCond .lt 13, 3) := by decide +kernel
theorem d9_4 : decode (mB m9) 4 = .ok (.iload_n 1, 1) := by decide +kernel
theorem d9_5 : decode (mB m9) 5 = .ok (.bipush 32, 2) := by decide +kernel
theorem d9_7 : decode (mB m9) 7 = .ok (.if_icmp .ge 7, 3) := by decide +kernel
theorem d9_10 : decode (mB m9) 10 = .ok (.iconst 1, 1) := by decide +kernel
theorem d9_11 : decode (mB m9) 11 = .ok (.goto 4, 3) := by decide +kernel
theorem d9_14 : decode (mB m9) 14 = .ok (.iconst 0, 1) := by decide +kernel
theorem d9_15 : decode (mB m9) 15 = .ok (.ireturn, 1) := by decide +kernel
theorem d10_0 : decode (mB m10) 0 = .ok (.aload_n 0, 1) := by decide +kernel
theorem d10_1 : decode (mB m10) 1 = .ok (.iload_n 1, 1) := by decide +kernel
theorem d10_2 : decode (mB m10) 2 = .ok (.invokevirtual 139, 3) := by decide +kernel
theorem d10_5 : decode (mB m10) 5 = .ok (.ifCond .ne 5, 3) := by decide +kernel
theorem d10_8 : decode (mB m10) 8 = .ok (.iconst 0, 1) := by decide +kernel
theorem d10_9 : decode (mB m10) 9 = .ok (.ireturn, 1) := by decide +kernel
theorem d10_10 : decode (mB m10) 10 = .ok (.aload_n 0, 1) := by decide +kernel
theorem d10_11 : decode (mB m10) 11 = .ok (.getfield 23, 3) := by decide +kernel
theorem d10_14 : decode (mB m10) 14 = .ok (.iload_n 1, 1) := by decide +kernel
theorem d10_15 : decode (mB m10) 15 = .ok (.iaload, 1) := by decide +kernel
theorem d10_16 : decode (mB m10) 16 = .ok (.istore_n 2, 1) := by decide +kernel
theorem d10_17 : decode (mB m10) 17 = .ok (.bipush 8, 2) := by decide +kernel
theorem d10_19 : decode (mB m10) 19 = .ok (.aload_n 0, 1) := by decide +kernel
theorem d10_20 : decode (mB m10) 20 = .ok (.iload_n 2, 1) := by decide +kernel
theorem d10_21 : decode (mB m10) 21 = .ok (.invokevirtual 80, 3) := by decide +kernel
theorem d10_24 : decode (mB m10) 24 = .ok (.imul, 1) := by decide +kernel
theorem d10_25 : decode (mB m10) 25 = .ok (.ireturn, 1) := by decide +kernel
theorem d11_0 : decode (mB m11) 0 = .ok (.aload_n 0, 1) := by decide +kernel
theorem d11_1 : decode (mB m11) 1 = .ok (.iload_n 1, 1) := by decide +kernel
theorem d11_2 : decode (mB m11) 2 = .ok (.invokevirtual 139, 3) := by decide +kernel
theorem d11_5 : decode (mB m11) 5 = .ok (.ifCond .eq 17, 3) := by decide +kernel
theorem d11_8 : decode (mB m11) 8 = .ok (.aload_n 0, 1) := by decide +kernel
theorem d11_9 : decode (mB m11) 9 = .ok (.getfield 26, 3) := by decide +kernel
theorem d11_12 : decode (mB m11) 12 = .ok (.iload_n 1, 1) := by decide +kernel
theorem d11_13 : decode (mB m11) 13 = .ok (.baload, 1) := by decide +kernel
theorem d11_14 : decode (mB m11) 14 = .ok (.iconst 2, 1) := by decide +kernel
theorem d11_15 : decode (mB m11) 15 = .ok (.if_icmp .ne 7, 3) := by decide +kernel
theorem d11_18 : decode (mB m11) 18 = .ok (.iconst 1, 1) := by decide +kernel
theorem d11_19 : decode (mB m11) 19 = .ok (.goto 4, 3) := by decide +kernel
theorem d11_22 : decode (mB m11) 22 = .ok (.iconst 0, 1) := by decide +kernel
theorem d11_23 : decode (mB m11) 23 = .ok (.ireturn, 1) := by decide +kernel
theorem d12_0 : decode (mB m12) 0 = .ok (.iconst 0, 1) := by decide +kernel
theorem d12_1 : decode (mB m12) 1 = .ok (.istore 4, 2) := by decide +kernel
theorem d12_3 : decode (mB m12) 3 = .ok (.iload 4, 2) := by decide +kernel
theorem d12_5 : decode (mB m12) 5 = .ok (.iload_n 2, 1) := by decide +kernel
theorem d12_6 : decode (mB m12) 6 = .ok (.if_icmp .ge 44, 3) := by decide +kernel
theorem d12_9 : decode (mB m12) 9 = .ok (.iload 4, 2) := by decide +kernel
theorem d12_11 : decode (mB m12) 11 = .ok (.bipush 32, 2) := by decide +kernel
theorem d12_13 : decode (mB m12) 13 = .ok (.if_icmp .ge 37, 3) := by decide +kernel
theorem d12_16 : decode (mB m12) 16 = .ok (.iload_n 1, 1) := by decide +kernel
theorem d12_17 : decode (mB m12) 17 = .ok (.iload 4, 2) := by decide +kernel
theorem d12_19 : decode (mB m12) 19 = .ok (.iadd, 1) := by decide +kernel
theorem d12_20 : decode (mB m12) 20 = .ok (.istore 5, 2) := by decide +kernel
theorem d12_22 : decode (mB m12) 22 = .ok (.iload 5, 2) := by decide +kernel
theorem d12_24 : decode (mB m12) 24 = .ok (.ifCond .lt 20, 3) := by decide +kernel
theorem d12_27 : decode (mB m12) 27 = .ok (.iload 5, 2) := by decide +kernel
theorem d12_29 : decode (mB m12) 29 = .ok (.aload_n 0, 1) := by decide +kernel
theorem d12_30 : decode (mB m12) 30 = .ok (.getfield 42, 3) := by decide +kernel
theorem d12_33 : decode (mB m12) 33 = .ok (.if_icmp .ge 11, 3) := by decide +kernel
theorem d12_36 : decode (mB m12) 36 = .ok (.aload_n 0, 1) := by decide +kernel
theorem d12_37 : decode (mB m12) 37 = .ok (.getfield 13, 3) := by decide +kernel
theorem d12_40 : decode (mB m12) 40 = .ok (.iload 5, 2) := by decide +kernel
theorem d12_42 : decode (mB m12) 42 = .ok (.iload_n 3, 1) := by decide +kernel
theorem d12_43 : decode (mB m12) 43 = .ok (.iastore, 1) := by decide +kernel
theorem d12_44 : decode (mB m12) 44 = .ok (.iinc 4 1, 3) := by decide +kernel
theorem d12_47 : decode (mB m12) 47 = .ok (.goto (-44), 3) := by decide +kernel
theorem d12_50 : decode (mB m12) 50 = .ok (.return_, 1) := by decide +kernel
theorem d13_0 : decode (mB m13) 0 = .ok (.iconst 0, 1) := by decide +kernel
theorem d13_1 : decode (mB m13) 1 = .ok (.istore 4, 2) := by decide +kernel
theorem d13_3 : decode (mB m13) 3 = .ok (.iload 4, 2) := by decide +kernel
theorem d13_5 : decode (mB m13) 5 = .ok (.iload_n 2, 1) := by decide +kernel
theorem d13_6 : decode (mB m13) 6 = .ok (.if_icmp .ge 44, 3) := by decide +kernel
theorem d13_9 : decode (mB m13) 9 = .ok (.iload 4, 2) := by decide +kernel
theorem d13_11 : decode (mB m13) 11 = .ok (.bipush 32, 2) := by decide +kernel
theorem d13_13 : decode (mB m13) 13 = .ok (.if_icmp .ge 37, 3) := by decide +kernel
theorem d13_16 : decode (mB m13) 16 = .ok (.iload_n 1, 1) := by decide +kernel
theorem d13_17 : decode (mB m13) 17 = .ok (.iload 4, 2) := by decide +kernel
theorem d13_19 : decode (mB m13) 19 = .ok (.iadd, 1) := by decide +kernel
theorem d13_20 : decode (mB m13) 20 = .ok (.istore 5, 2) := by decide +kernel
theorem d13_22 : decode (mB m13) 22 = .ok (.iload 5, 2) := by decide +kernel
theorem d13_24 : decode (mB m13) 24 = .ok (.ifCond .lt 20, 3) := by decide +kernel
theorem d13_27 : decode (mB m13) 27 = .ok (.iload 5, 2) := by decide +kernel
theorem d13_29 : decode (mB m13) 29 = .ok (.aload_n 0, 1) := by decide +kernel
theorem d13_30 : decode (mB m13) 30 = .ok (.getfield 42, 3) := by decide +kernel
theorem d13_33 : decode (mB m13) 33 = .ok (.if_icmp .ge 11, 3) := by decide +kernel
theorem d13_36 : decode (mB m13) 36 = .ok (.aload_n 0, 1) := by decide +kernel
theorem d13_37 : decode (mB m13) 37 = .ok (.getfield 17, 3) := by decide +kernel
theorem d13_40 : decode (mB m13) 40 = .ok (.iload 5, 2) := by decide +kernel
theorem d13_42 : decode (mB m13) 42 = .ok (.iload_n 3, 1) := by decide +kernel
theorem d13_43 : decode (mB m13) 43 = .ok (.iastore, 1) := by decide +kernel
theorem d13_44 : decode (mB m13) 44 = .ok (.iinc 4 1, 3) := by decide +kernel
theorem d13_47 : decode (mB m13) 47 = .ok (.goto (-44), 3) := by decide +kernel
theorem d13_50 : decode (mB m13) 50 = .ok (.return_, 1) := by decide +kernel
theorem d14_0 : decode (mB m14) 0 = .ok (.iconst 0, 1) := by decide +kernel
theorem d14_1 : decode (mB m14) 1 = .ok (.istore_n 2, 1) := by decide +kernel
theorem d14_2 : decode (mB m14) 2 = .ok (.iload_n 2, 1) := by decide +kernel
theorem d14_3 : decode (mB m14) 3 = .ok (.aload_n 0, 1) := by decide +kernel
theorem d14_4 : decode (mB m14) 4 = .ok (.getfield 145, 3) := by decide +kernel
theorem d14_7 : decode (mB m14) 7 = .ok (.if_icmp .ge 27, 3) := by decide +kernel
theorem d14_10 : decode (mB m14) 10 = .ok (.iload_n 2, 1) := by decide +kernel
theorem d14_11 : decode (mB m14) 11 = .ok (.bipush 32, 2) := by decide +kernel
theorem d14_13 : decode (mB m14) 13 = .ok (.if_icmp .ge 21, 3) := by decide +kernel
theorem d14_16 : decode (mB m14) 16 = .ok (.aload_n 0, 1) := by decide +kernel
theorem d14_17 : decode (mB m14) 17 = .ok (.getfield 32, 3) := by decide +kernel
theorem d14_20 : decode (mB m14) 20 = .ok (.iload_n 2, 1) := by decide +kernel
theorem d14_21 : decode (mB m14) 21 = .ok (.iaload, 1) := by decide +kernel
theorem d14_22 : decode (mB m14) 22 = .ok (.iload_n 1, 1) := by decide +kernel
theorem d14_23 : decode (mB m14) 23 = .ok (.if_icmp .le 5, 3) := by decide +kernel
theorem d14_26 : decode (mB m14) 26 = .ok (.iload_n 2, 1) := by decide +kernel
theorem d14_27 : decode (mB m14) 27 = .ok (.ireturn, 1) := by decide +kernel
theorem d14_28 : decode (mB m14) 28 = .ok (.iinc 2 1, 3) := by decide +kernel
theorem d14_31 : decode (mB m14) 31 = .ok (.goto (-29), 3) := by decide +kernel
theorem d14_34 : decode (mB m14) 34 = .ok (.aload_n 0, 1) := by decide +kernel
theorem d14_35 : decode (mB m14) 35 = .ok (.getfield 145, 3) := by decide +kernel
theorem d14_38 : decode (mB m14) 38 = .ok (.ireturn, 1) := by decide +kernel
theorem d15_0 : decode (mB m15) 0 = .ok (.iload_n 1, 1) := by decide +kernel
theorem d15_1 : decode (mB m15) 1 = .ok (.ifCond .lt 11, 3) := by decide +kernel
theorem d15_4 : decode (mB m15) 4 = .ok (.iload_n 1, 1) := by decide +kernel
theorem d15_5 : decode (mB m15) 5 = .ok (.aload_n 0, 1) := by decide +kernel
theorem d15_6 : decode (mB m15) 6 = .ok (.getfield 145, 3) := by decide +kernel
theorem d15_9 : decode (mB m15) 9 = .ok (.if_icmp .lt 4, 3) := by decide +kernel
theorem d15_12 : decode (mB m15) 12 = .ok (.return_, 1) := by decide +kernel
theorem d15_13 : decode (mB m15) 13 = .ok (.iload_n 1, 1) := by decide +kernel
theorem d15_14 : decode (mB m15) 14 = .ok (.istore_n 2, 1) := by decide +kernel
theorem d15_15 : decode (mB m15) 15 = .ok (.iload_n 2, 1) := by decide +kernel
theorem d15_16 : decode (mB m15) 16 = .ok (.aload_n 0, 1) := by decide +kernel
theorem d15_17 : decode (mB m15) 17 = .ok (.getfield 145, 3) := by decide +kernel
theorem d15_20 : decode (mB m15) 20 = .ok (.iconst 1, 1) := by decide +kernel
theorem d15_21 : decode (mB m15) 21 = .ok (.isub, 1) := by decide +kernel
theorem d15_22 : decode (mB m15) 22 = .ok (.if_icmp .ge 43, 3) := by decide +kernel
theorem d15_25 : decode (mB m15) 25 = .ok (.iload_n 2, 1) := by decide +kernel
theorem d15_26 : decode (mB m15) 26 = .ok (.bipush 31, 2) := by decide +kernel
theorem d15_28 : decode (mB m15) 28 = .ok (.if_icmp .ge 37, 3) := by decide +kernel
theorem d15_31 : decode (mB m15) 31 = .ok (.aload_n 0, 1) := by decide +kernel
theorem d15_32 : decode (mB m15) 32 = .ok (.getfield 32, 3) := by decide +kernel
theorem d15_35 : decode (mB m15) 35 = .ok (.iload_n 2, 1) := by decide +kernel
theorem d15_36 : decode (mB m15) 36 = .ok (.aload_n 0, 1) := by decide +kernel
theorem d15_37 : decode (mB m15) 37 = .ok (.getfield 32, 3) := by decide +kernel
theorem d15_40 : decode (mB m15) 40 = .ok (.iload_n 2, 1) := by decide +kernel
theorem d15_41 : decode (mB m15) 41 = .ok (.iconst 1, 1) := by decide +kernel
theorem d15_42 : decode (mB m15) 42 = .ok (.iadd, 1) := by decide +kernel
theorem d15_43 : decode (mB m15) 43 = .ok (.iaload, 1) := by decide +kernel
theorem d15_44 : decode (mB m15) 44 = .ok (.iastore, 1) := by decide +kernel
theorem d15_45 : decode (mB m15) 45 = .ok (.aload_n 0, 1) := by decide +kernel
theorem d15_46 : decode (mB m15) 46 = .ok (.getfield 35, 3) := by decide +kernel
theorem d15_49 : decode (mB m15) 49 = .ok (.iload_n 2, 1) := by decide +kernel
theorem d15_50 : decode (mB m15) 50 = .ok (.aload_n 0, 1) := by decide +kernel
theorem d15_51 : decode (mB m15) 51 = .ok (.getfield 35, 3) := by decide +kernel
theorem d15_54 : decode (mB m15) 54 = .ok (.iload_n 2, 1) := by decide +kernel
theorem d15_55 : decode (mB m15) 55 = .ok (.iconst 1, 1) := by decide +kernel
theorem d15_56 : decode (mB m15) 56 = .ok (.iadd, 1) := by decide +kernel
theorem d15_57 : decode (mB m15) 57 = .ok (.iaload, 1) := by decide +kernel
theorem d15_58 : decode (mB m15) 58 = .ok (.iastore, 1) := by decide +kernel
theorem d15_59 : decode (mB m15) 59 = .ok (.iinc 2 1, 3) := by decide +kernel
theorem d15_62 : decode (mB m15) 62 = .ok (.goto (-47), 3) := by decide +kernel
theorem d15_65 : decode (mB m15) 65 = .ok (.aload_n 0, 1) := by decide +kernel
theorem d15_66 : decode (mB m15) 66 = .ok (.dup, 1) := by decide +kernel
theorem d15_67 : decode (mB m15) 67 = .ok (.getfield 145, 3) := by decide +kernel
theorem d15_70 : decode (mB m15) 70 = .ok (.iconst 1, 1) := by decide +kernel
theorem d15_71 : decode (mB m15) 71 = .ok (.isub, 1) := by decide +kernel
theorem d15_72 : decode (mB m15) 72 = .ok (.putfield 145, 3) := by decide +kernel
theorem d15_75 : decode (mB m15) 75 = .ok (.return_, 1) := by decide +kernel
theorem d16_0 : decode (mB m16) 0 = .ok (.aload_n 0, 1) := by decide +kernel
theorem d16_1 : decode (mB m16) 1 = .ok (.getfield 145, 3) := by decide +kernel
theorem d16_4 : decode (mB m16) 4 = .ok (.bipush 32, 2) := by decide +kernel
theorem d16_6 : decode (mB m16) 6 = .ok (.if_icmp .ge 15, 3) := by decide +kernel
theorem d16_9 : decode (mB m16) 9 = .ok (.iload_n 1, 1) := by decide +kernel
theorem d16_10 : decode (mB m16) 10 = .ok (.ifCond .lt 11, 3) := by decide +kernel
theorem d16_13 : decode (mB m16) 13 = .ok (.iload_n 1, 1) := by decide +kernel
theorem d16_14 : decode (mB m16) 14 = .ok (.aload_n 0, 1) := by decide +kernel
theorem d16_15 : decode (mB m16) 15 = .ok (.getfield 145, 3) := by decide +kernel
theorem d16_18 : decode (mB m16) 18 = .ok (.if_icmp .le 4, 3) := by decide +kernel
theorem d16_21 : decode (mB m16) 21 = .ok (.return_, 1) := by decide +kernel
theorem d16_22 : decode (mB m16) 22 = .ok (.aload_n 0, 1) := by decide +kernel
theorem d16_23 : decode (mB m16) 23 = .ok (.getfield 145, 3) := by decide +kernel
theorem d16_26 : decode (mB m16) 26 = .ok (.istore 4, 2) := by decide +kernel
theorem d16_28 : decode (mB m16) 28 = .ok (.iload 4, 2) := by decide +kernel
theorem d16_30 : decode (mB m16) 30 = .ok (.iload_n 1, 1) := by decide +kernel
theorem d16_31 : decode (mB m16) 31 = .ok (.if_icmp .le 46, 3) := by decide +kernel
theorem d16_34 : decode (mB m16) 34 = .ok (.iload 4, 2) := by decide +kernel
theorem d16_36 : decode (mB m16) 36 = .ok (.ifCond .le 41, 3) := by decide +kernel
theorem d16_39 : decode (mB m16) 39 = .ok (.aload_n 0, 1) := by decide +kernel
theorem d16_40 : decode (mB m16) 40 = .ok (.getfield 32, 3) := by decide +kernel
theorem d16_43 : decode (mB m16) 43 = .ok (.iload 4, 2) := by decide +kernel
theorem d16_45 : decode (mB m16) 45 = .ok (.aload_n 0, 1) := by decide +kernel
theorem d16_46 : decode (mB m16) 46 = .ok (.getfield 32, 3) := by decide +kernel
theorem d16_49 : decode (mB m16) 49 = .ok (.iload 4, 2) := by decide +kernel
theorem d16_51 : decode (mB m16) 51 = .ok (.iconst 1, 1) := by decide +kernel
theorem d16_52 : decode (mB m16) 52 = .ok (.isub, 1) := by decide +kernel
theorem d16_53 : decode (mB m16) 53 = .ok (.iaload, 1) := by decide +kernel
theorem d16_54 : decode (mB m16) 54 = .ok (.iastore, 1) := by decide +kernel
theorem d16_55 : decode (mB m16) 55 = .ok (.aload_n 0, 1) := by decide +kernel
theorem d16_56 : decode (mB m16) 56 = .ok (.getfield 35, 3) := by decide +kernel
theorem d16_59 : decode (mB m16) 59 = .ok (.iload 4, 2) := by decide +kernel
theorem d16_61 : decode (mB m16) 61 = .ok (.aload_n 0, 1) := by decide +kernel
theorem d16_62 : decode (mB m16) 62 = .ok (.getfield 35, 3) := by decide +kernel
theorem d16_65 : decode (mB m16) 65 = .ok (.iload 4, 2) := by decide +kernel
theorem d16_67 : decode (mB m16) 67 = .ok (.iconst 1, 1) := by decide +kernel
theorem d16_68 : decode (mB m16) 68 = .ok (.isub, 1) := by decide +kernel
theorem d16_69 : decode (mB m16) 69 = .ok (.iaload, 1) := by decide +kernel
theorem d16_70 : decode (mB m16) 70 = .ok (.iastore, 1) := by decide +kernel
theorem d16_71 : decode (mB m16) 71 = .ok (.iinc 4 (-1), 3) := by decide +kernel
theorem d16_74 : decode (mB m16) 74 = .ok (.goto (-46), 3) := by decide +kernel
theorem d16_77 : decode (mB m16) 77 = .ok (.aload_n 0, 1) := by decide +kernel
theorem d16_78 : decode (mB m16) 78 = .ok (.getfield 32, 3) := by decide +kernel
theorem d16_81 : decode (mB m16) 81 = .ok (.iload_n 1, 1) := by decide +kernel
theorem d16_82 : decode (mB m16) 82 = .ok (.iload_n 2, 1) := by decide +kernel
theorem d16_83 : decode (mB m16) 83 = .ok (.iastore, 1) := by decide +kernel
theorem d16_84 : decode (mB m16) 84 = .ok (.aload_n 0, 1) := by decide +kernel
theorem d16_85 : decode (mB m16) 85 = .ok (.getfield 35, 3) := by decide +kernel
theorem d16_88 : decode (mB m16) 88 = .ok (.iload_n 1, 1) := by decide +kernel
theorem d16_89 : decode (mB m16) 89 = .ok (.iload_n 3, 1) := by decide +kernel
theorem d16_90 : decode (mB m16) 90 = .ok (.iastore, 1) := by decide +kernel
theorem d16_91 : decode (mB m16) 91 = .ok (.aload_n 0, 1) := by decide +kernel
theorem d16_92 : decode (mB m16) 92 = .ok (.dup, 1) := by decide +kernel
theorem d16_93 : decode (mB m16) 93 = .ok (.getfield 145, 3) := by decide +kernel
theorem d16_96 : decode (mB m16) 96 = .ok (.iconst 1, 1) := by decide +kernel
theorem d16_97 : decode (mB m16) 97 = .ok (.iadd, 1) := by decide +kernel
theorem d16_98 : decode (mB m16) 98 = .ok (.putfield 145, 3) := by decide +kernel
theorem d16_101 : decode (mB m16) 101 = .ok (.return_, 1) := by decide +kernel
theorem d17_0 : decode (mB m17) 0 = .ok (.aload_n 0, 1) := by decide +kernel
theorem d17_1 : decode (mB m17) 1 = .ok (.iload_n 1, 1) := by decide +kernel
theorem d17_2 : decode (mB m17) 2 = .ok (.invokevirtual 194, 3) := by decide +kernel
theorem d17_5 : decode (mB m17) 5 = .ok (.istore_n 3, 1) := by decide +kernel
theorem d17_6 : decode (mB m17) 6 = .ok (.iload_n 3, 1) := by decide +kernel
theorem d17_7 : decode (mB m17) 7 = .ok (.ifCond .le 28, 3) := by decide +kernel
theorem d17_10 : decode (mB m17) 10 = .ok (.aload_n 0, 1) := by decide +kernel
theorem d17_11 : decode (mB m17) 11 = .ok (.getfield 32, 3) := by decide +kernel
theorem d17_14 : decode (mB m17) 14 = .ok (.iload_n 3, 1) := by decide +kernel
theorem d17_15 : decode (mB m17) 15 = .ok (.iconst 1, 1) := by decide +kernel
theorem d17_16 : decode (mB m17) 16 = .ok (.isub, 1) := by decide +kernel
theorem d17_17 : decode (mB m17) 17 = .ok (.iaload, 1) := by decide +kernel
theorem d17_18 : decode (mB m17) 18 = .ok (.aload_n 0, 1) := by decide +kernel
theorem d17_19 : decode (mB m17) 19 = .ok (.getfield 35, 3) := by decide +kernel
theorem d17_22 : decode (mB m17) 22 = .ok (.iload_n 3, 1) := by decide +kernel
theorem d17_23 : decode (mB m17) 23 = .ok (.iconst 1, 1) := by decide +kernel
theorem d17_24 : decode (mB m17) 24 = .ok (.isub, 1) := by decide +kernel
theorem d17_25 : decode (mB m17) 25 = .ok (.iaload, 1) := by decide +kernel
theorem d17_26 : decode (mB m17) 26 = .ok (.iadd, 1) := by decide +kernel
theorem d17_27 : decode (mB m17) 27 = .ok (.iload_n 1, 1) := by decide +kernel
theorem d17_28 : decode (mB m17) 28 = .ok (.if_icmp .ne 7, 3) := by decide +kernel
theorem d17_31 : decode (mB m17) 31 = .ok (.iconst 1, 1) := by decide +kernel
theorem d17_32 : decode (mB m17) 32 = .ok (.goto 4, 3) := by decide +kernel
theorem d17_35 : decode (mB m17) 35 = .ok (.iconst 0, 1) := by decide +kernel
theorem d17_36 : decode (mB m17) 36 = .ok (.istore 4, 2) := by decide +kernel
theorem d17_38 : decode (mB m17) 38 = .ok (.iload_n 3, 1) := by decide +kernel
theorem d17_39 : decode (mB m17) 39 = .ok (.aload_n 0, 1) := by decide +kernel
theorem d17_40 : decode (mB m17) 40 = .ok (.getfield 145, 3) := by decide +kernel
theorem d17_43 : decode (mB m17) 43 = .ok (.if_icmp .ge 19, 3) := by decide +kernel
theorem d17_46 : decode (mB m17) 46 = .ok (.iload_n 1, 1) := by decide +kernel
theorem d17_47 : decode (mB m17) 47 = .ok (.iload_n 2, 1) := by decide +kernel
theorem d17_48 : decode (mB m17) 48 = .ok (.iadd, 1) := by decide +kernel
theorem d17_49 : decode (mB m17) 49 = .ok (.aload_n 0, 1) := by decide +kernel
theorem d17_50 : decode (mB m17) 50 = .ok (.getfield 32, 3) := by decide +kernel
theorem d17_53 : decode (mB m17) 53 = .ok (.iload_n 3, 1) := by decide +kernel
theorem d17_54 : decode (mB m17) 54 = .ok (.iaload, 1) := by decide +kernel
theorem d17_55 : decode (mB m17) 55 = .ok (.if_icmp .ne 7, 3) := by decide +kernel
theorem d17_58 : decode (mB m17) 58 = .ok (.iconst 1, 1) := by decide +kernel
theorem d17_59 : decode (mB m17) 59 = .ok (.goto 4, 3) := by decide +kernel
theorem d17_62 : decode (mB m17) 62 = .ok (.iconst 0, 1) := by decide +kernel
theorem d17_63 : decode (mB m17) 63 = .ok (.istore 5, 2) := by decide +kernel
theorem d17_65 : decode (mB m17) 65 = .ok (.iload 4, 2) := by decide +kernel
theorem d17_67 : decode (mB m17) 67 = .ok (.ifCond .eq 35, 3) := by decide +kernel
theorem d17_70 : decode (mB m17) 70 = .ok (.iload 5, 2) := by decide +kernel
theorem d17_72 : decode (mB m17) 72 = .ok (.ifCond .eq 30, 3) := by decide +kernel
theorem d17_75 : decode (mB m17) 75 = .ok (.aload_n 0, 1) := by decide +kernel
theorem d17_76 : decode (mB m17) 76 = .ok (.getfield 35, 3) := by decide +kernel
theorem d17_79 : decode (mB m17) 79 = .ok (.iload_n 3, 1) := by decide +kernel
theorem d17_80 : decode (mB m17) 80 = .ok (.iconst 1, 1) := by decide +kernel
theorem d17_81 : decode (mB m17) 81 = .ok (.isub, 1) := by decide +kernel
theorem d17_82 : decode (mB m17) 82 = .ok (.dup2, 1) := by decide +kernel
theorem d17_83 : decode (mB m17) 83 = .ok (.iaload, 1) := by decide +kernel
theorem d17_84 : decode (mB m17) 84 = .ok (.iload_n 2, 1) := by decide +kernel
theorem d17_85 : decode (mB m17) 85 = .ok (.aload_n 0, 1) := by decide +kernel
theorem d17_86 : decode (mB m17) 86 = .ok (.getfield 35, 3) := by decide +kernel
theorem d17_89 : decode (mB m17) 89 = .ok (.iload_n 3, 1) := by decide +kernel
theorem d17_90 : decode (mB m17) 90 = .ok (.iaload, 1) := by decide +kernel
theorem d17_91 : decode (mB m17) 91 = .ok (.iadd, 1) := by decide +kernel
theorem d17_92 : decode (mB m17) 92 = .ok (.iadd, 1) := by decide +kernel
theorem d17_93 : decode (mB m17) 93 = .ok (.iastore, 1) := by decide +kernel
theorem d17_94 : decode (mB m17) 94 = .ok (.aload_n 0, 1) := by decide +kernel
theorem d17_95 : decode (mB m17) 95 = .ok (.iload_n 3, 1) := by decide +kernel
theorem d17_96 : decode (mB m17) 96 = .ok (.invokevirtual 191, 3) := by decide +kernel
theorem d17_99 : decode (mB m17) 99 = .ok (.goto 55, 3) := by decide +kernel
theorem d17_102 : decode (mB m17) 102 = .ok (.iload 4, 2) := by decide +kernel
theorem d17_104 : decode (mB m17) 104 = .ok (.ifCond .eq 18, 3) := by decide +kernel
theorem d17_107 : decode (mB m17) 107 = .ok (.aload_n 0, 1) := by decide +kernel
theorem d17_108 : decode (mB m17) 108 = .ok (.getfield 35, 3) := by decide +kernel
theorem d17_111 : decode (mB m17) 111 = .ok (.iload_n 3, 1) := by decide +kernel
theorem d17_112 : decode (mB m17) 112 = .ok (.iconst 1, 1) := by decide +kernel
theorem d17_113 : decode (mB m17) 113 = .ok (.isub, 1) := by decide +kernel
theorem d17_114 : decode (mB m17) 114 = .ok (.dup2, 1) := by decide +kernel
theorem d17_115 : decode (mB m17) 115 = .ok (.iaload, 1) := by decide +kernel
theorem d17_116 : decode (mB m17) 116 = .ok (.iload_n 2, 1) := by decide +kernel
theorem d17_117 : decode (mB m17) 117 = .ok (.iadd, 1) := by decide +kernel
theorem d17_118 : decode (mB m17) 118 = .ok (.iastore, 1) := by decide +kernel
theorem d17_119 : decode (mB m17) 119 = .ok (.goto 35, 3) := by decide +kernel
theorem d17_122 : decode (mB m17) 122 = .ok (.iload 5, 2) := by decide +kernel
theorem d17_124 : decode (mB m17) 124 = .ok (.ifCond .eq 23, 3) := by decide +kernel
theorem d17_127 : decode (mB m17) 127 = .ok (.aload_n 0, 1) := by decide +kernel
theorem d17_128 : decode (mB m17) 128 = .ok (.getfield 32, 3) := by decide +kernel
theorem d17_131 : decode (mB m17) 131 = .ok (.iload_n 3, 1) := by decide +kernel
theorem d17_132 : decode (mB m17) 132 = .ok (.iload_n 1, 1) := by decide +kernel
theorem d17_133 : decode (mB m17) 133 = .ok (.iastore, 1) := by decide +kernel
theorem d17_134 : decode (mB m17) 134 = .ok (.aload_n 0, 1) := by decide +kernel
theorem d17_135 : decode (mB m17) 135 = .ok (.getfield 35, 3) := by decide +kernel
theorem d17_138 : decode (mB m17) 138 = .ok (.iload_n 3, 1) := by decide +kernel
theorem d17_139 : decode (mB m17) 139 = .ok (.dup2, 1) := by decide +kernel
theorem d17_140 : decode (mB m17) 140 = .ok (.iaload, 1) := by decide +kernel
theorem d17_141 : decode (mB m17) 141 = .ok (.iload_n 2, 1) := by decide +kernel
theorem d17_142 : decode (mB m17) 142 = .ok (.iadd, 1) := by decide +kernel
theorem d17_143 : decode (mB m17) 143 = .ok (.iastore, 1) := by decide +kernel
theorem d17_144 : decode (mB m17) 144 = .ok (.goto 10, 3) := by decide +kernel
theorem d17_147 : decode (mB m17) 147 = .ok (.aload_n 0, 1) := by decide +kernel
theorem d17_148 : decode (mB m17) 148 = .ok (.iload_n 3, 1) := by decide +kernel
theorem d17_149 : decode (mB m17) 149 = .ok (.iload_n 1, 1) := by decide +kernel
theorem d17_150 : decode (mB m17) 150 = .ok (.iload_n 2, 1) := by decide +kernel
theorem d17_151 : decode (mB m17) 151 = .ok (.invokevirtual 197, 3) := by decide +kernel
theorem d17_154 : decode (mB m17) 154 = .ok (.return_, 1) := by decide +kernel
theorem d18_0 : decode (mB m18) 0 = .ok (.aload_n 0, 1) := by decide +kernel
theorem d18_1 : decode (mB m18) 1 = .ok (.iload_n 1, 1) := by decide +kernel
theorem d18_2 : decode (mB m18) 2 = .ok (.invokevirtual 139, 3) := by decide +kernel
theorem d18_5 : decode (mB m18) 5 = .ok (.ifCond .ne 4, 3) := by decide +kernel
theorem d18_8 : decode (mB m18) 8 = .ok (.return_, 1) := by decide +kernel
theorem d18_9 : decode (mB m18) 9 = .ok (.aload_n 0, 1) := by decide +kernel
theorem d18_10 : decode (mB m18) 10 = .ok (.getfield 20, 3) := by decide +kernel
theorem d18_13 : decode (mB m18) 13 = .ok (.iload_n 1, 1) := by decide +kernel
theorem d18_14 : decode (mB m18) 14 = .ok (.iaload, 1) := by decide +kernel
theorem d18_15 : decode (mB m18) 15 = .ok (.istore_n 2, 1) := by decide +kernel
theorem d18_16 : decode (mB m18) 16 = .ok (.aload_n 0, 1) := by decide +kernel
theorem d18_17 : decode (mB m18) 17 = .ok (.getfield 23, 3) := by decide +kernel
theorem d18_20 : decode (mB m18) 20 = .ok (.iload_n 1, 1) := by decide +kernel
theorem d18_21 : decode (mB m18) 21 = .ok (.iaload, 1) := by decide +kernel
theorem d18_22 : decode (mB m18) 22 = .ok (.istore_n 3, 1) := by decide +kernel
theorem d18_23 : decode (mB m18) 23 = .ok (.aload_n 0, 1) := by decide +kernel
theorem d18_24 : decode (mB m18) 24 = .ok (.iload_n 3, 1) := by decide +kernel
theorem d18_25 : decode (mB m18) 25 = .ok (.invokevirtual 80, 3) := by decide +kernel
theorem d18_28 : decode (mB m18) 28 = .ok (.istore 4, 2) := by decide +kernel
theorem d18_30 : decode (mB m18) 30 = .ok (.aload_n 0, 1) := by decide +kernel
theorem d18_31 : decode (mB m18) 31 = .ok (.iload_n 2, 1) := by decide +kernel
theorem d18_32 : decode (mB m18) 32 = .ok (.iload 4, 2) := by decide +kernel
theorem d18_34 : decode (mB m18) 34 = .ok (.sipush 254, 3) := by decide +kernel
theorem d18_37 : decode (mB m18) 37 = .ok (.invokevirtual 157, 3) := by decide +kernel
theorem d18_40 : decode (mB m18) 40 = .ok (.aload_n 0, 1) := by decide +kernel
theorem d18_41 : decode (mB m18) 41 = .ok (.iload_n 2, 1) := by decide +kernel
theorem d18_42 : decode (mB m18) 42 = .ok (.iload 4, 2) := by decide +kernel
theorem d18_44 : decode (mB m18) 44 = .ok (.iconst (-1), 1) := by decide +kernel
theorem d18_45 : decode (mB m18) 45 = .ok (.invokevirtual 161, 3) := by decide +kernel
theorem d18_48 : decode (mB m18) 48 = .ok (.aload_n 0, 1) := by decide +kernel
theorem d18_49 : decode (mB m18) 49 = .ok (.iload_n 2, 1) := by decide +kernel
theorem d18_50 : decode (mB m18) 50 = .ok (.iload 4, 2) := by decide +kernel
theorem d18_52 : decode (mB m18) 52 = .ok (.invokevirtual 176, 3) := by decide +kernel
theorem d18_55 : decode (mB m18) 55 = .ok (.aload_n 0, 1) := by decide +kernel
theorem d18_56 : decode (mB m18) 56 = .ok (.getfield 26, 3) := by decide +kernel
theorem d18_59 : decode (mB m18) 59 = .ok (.iload_n 1, 1) := by decide +kernel
theorem d18_60 : decode (mB m18) 60 = .ok (.iconst 0, 1) := by decide +kernel
theorem d18_61 : decode (mB m18) 61 = .ok (.bastore, 1) := by decide +kernel
theorem d18_62 : decode (mB m18) 62 = .ok (.aload_n 0, 1) := by decide +kernel
theorem d18_63 : decode (mB m18) 63 = .ok (.getfield 20, 3) := by decide +kernel
theorem d18_66 : decode (mB m18) 66 = .ok (.iload_n 1, 1) := by decide +kernel
theorem d18_67 : decode (mB m18) 67 = .ok (.iconst 0, 1) := by decide +kernel
theorem d18_68 : decode (mB m18) 68 = .ok (.iastore, 1) := by decide +kernel
theorem d18_69 : decode (mB m18) 69 = .ok (.aload_n 0, 1) := by decide +kernel
theorem d18_70 : decode (mB m18) 70 = .ok (.getfield 23, 3) := by decide +kernel
theorem d18_73 : decode (mB m18) 73 = .ok (.iload_n 1, 1) := by decide +kernel
theorem d18_74 : decode (mB m18) 74 = .ok (.iconst 0, 1) := by decide +kernel
theorem d18_75 : decode (mB m18) 75 = .ok (.iastore, 1) := by decide +kernel
theorem d18_76 : decode (mB m18) 76 = .ok (.return_, 1) := by decide +kernel
theorem d19_0 : decode (mB m19) 0 = .ok (.aload_n 0, 1) := by decide +kernel
theorem d19_1 : decode (mB m19) 1 = .ok (.getfield 130, 3) := by decide +kernel
theorem d19_4 : decode (mB m19) 4 = .ok (.ifCond .gt 4, 3) := by decide +kernel
theorem d19_7 : decode (mB m19) 7 = .ok (.return_, 1) := by decide +kernel
theorem d19_8 : decode (mB m19) 8 = .ok (.aload_n 0, 1) := by decide +kernel
theorem d19_9 : decode (mB m19) 9 = .ok (.getfield 29, 3) := by decide +kernel
theorem d19_12 : decode (mB m19) 12 = .ok (.aload_n 0, 1) := by decide +kernel
theorem d19_13 : decode (mB m19) 13 = .ok (.getfield 136, 3) := by decide +kernel
theorem d19_16 : decode (mB m19) 16 = .ok (.iaload, 1) := by decide +kernel
theorem d19_17 : decode (mB m19) 17 = .ok (.istore_n 1, 1) := by decide +kernel
theorem d19_18 : decode (mB m19) 18 = .ok (.aload_n 0, 1) := by decide +kernel
theorem d19_19 : decode (mB m19) 19 = .ok (.getfield 29, 3) := by decide +kernel
theorem d19_22 : decode (mB m19) 22 = .ok (.aload_n 0, 1) := by decide +kernel
theorem d19_23 : decode (mB m19) 23 = .ok (.getfield 136, 3) := by decide +kernel
theorem d19_26 : decode (mB m19) 26 = .ok (.iconst (-1), 1) := by decide +kernel
theorem d19_27 : decode (mB m19) 27 = .ok (.iastore, 1) := by decide +kernel
theorem d19_28 : decode (mB m19) 28 = .ok (.aload_n 0, 1) := by decide +kernel
theorem d19_29 : decode (mB m19) 29 = .ok (.aload_n 0, 1) := by decide +kernel
theorem d19_30 : decode (mB m19) 30 = .ok (.getfield 136, 3) := by decide +kernel
theorem d19_33 : decode (mB m19) 33 = .ok (.iconst 1, 1) := by decide +kernel
theorem d19_34 : decode (mB m19) 34 = .ok (.iadd, 1) := by decide +kernel
theorem d19_35 : decode (mB m19) 35 = .ok (.bipush 31, 2) := by decide +kernel
theorem d19_37 : decode (mB m19) 37 = .ok (.iand, 1) := by decide +kernel
theorem d19_38 : decode (mB m19) 38 = .ok (.putfield 136, 3) := by decide +kernel
theorem d19_41 : decode (mB m19) 41 = .ok (.aload_n 0, 1) := by decide +kernel
theorem d19_42 : decode (mB m19) 42 = .ok (.dup, 1) := by decide +kernel
theorem d19_43 : decode (mB m19) 43 = .ok (.getfield 130, 3) := by decide +kernel
theorem d19_46 : decode (mB m19) 46 = .ok (.iconst 1, 1) := by decide +kernel
theorem d19_47 : decode (mB m19) 47 = .ok (.isub, 1) := by decide +kernel
theorem d19_48 : decode (mB m19) 48 = .ok (.putfield 130, 3) := by decide +kernel
theorem d19_51 : decode (mB m19) 51 = .ok (.aload_n 0, 1) := by decide +kernel
theorem d19_52 : decode (mB m19) 52 = .ok (.dup, 1) := by decide +kernel
theorem d19_53 : decode (mB m19) 53 = .ok (.getfield 133, 3) := by decide +kernel
theorem d19_56 : decode (mB m19) 56 = .ok (.aload_n 0, 1) := by decide +kernel
theorem d19_57 : decode (mB m19) 57 = .ok (.iload_n 1, 1) := by decide +kernel
theorem d19_58 : decode (mB m19) 58 = .ok (.invokevirtual 182, 3) := by decide +kernel
theorem d19_61 : decode (mB m19) 61 = .ok (.isub, 1) := by decide +kernel
theorem d19_62 : decode (mB m19) 62 = .ok (.putfield 133, 3) := by decide +kernel
theorem d19_65 : decode (mB m19) 65 = .ok (.aload_n 0, 1) := by decide +kernel
theorem d19_66 : decode (mB m19) 66 = .ok (.iload_n 1, 1) := by decide +kernel
theorem d19_67 : decode (mB m19) 67 = .ok (.invokevirtual 101, 3) := by decide +kernel
theorem d19_70 : decode (mB m19) 70 = .ok (.ifCond .eq 8, 3) := by decide +kernel
theorem d19_73 : decode (mB m19) 73 = .ok (.aload_n 0, 1) := by decide +kernel
theorem d19_74 : decode (mB m19) 74 = .ok (.iload_n 1, 1) := by decide +kernel
theorem d19_75 : decode (mB m19) 75 = .ok (.invokevirtual 185, 3) := by decide +kernel
theorem d19_78 : decode (mB m19) 78 = .ok (.return_, 1) := by decide +kernel
theorem d20_0 : decode (mB m20) 0 = .ok (.aload_n 0, 1) := by decide +kernel
theorem d20_1 : decode (mB m20) 1 = .ok (.iload_n 1, 1) := by decide +kernel
theorem d20_2 : decode (mB m20) 2 = .ok (.invokevirtual 188, 3) := by decide +kernel
theorem d20_5 : decode (mB m20) 5 = .ok (.istore_n 2, 1) := by decide +kernel
theorem d20_6 : decode (mB m20) 6 = .ok (.iconst 0, 1) := by decide +kernel
theorem d20_7 : decode (mB m20) 7 = .ok (.istore_n 3, 1) := by decide +kernel
theorem d20_8 : decode (mB m20) 8 = .ok (.iload_n 3, 1) := by decide +kernel
theorem d20_9 : decode (mB m20) 9 = .ok (.bipush 64, 2) := by decide +kernel
theorem d20_11 : decode (mB m20) 11 = .ok (.if_icmp .ge 30, 3) := by decide +kernel
theorem d20_14 : decode (mB m20) 14 = .ok (.iload_n 2, 1) := by decide +kernel
theorem d20_15 : decode (mB m20) 15 = .ok (.ifCond .ge 26, 3) := by decide +kernel
theorem d20_18 : decode (mB m20) 18 = .ok (.aload_n 0, 1) := by decide +kernel
theorem d20_19 : decode (mB m20) 19 = .ok (.getfield 130, 3) := by decide +kernel
theorem d20_22 : decode (mB m20) 22 = .ok (.ifCond .le 19, 3) := by decide +kernel
theorem d20_25 : decode (mB m20) 25 = .ok (.aload_n 0, 1) := by decide +kernel
theorem d20_26 : decode (mB m20) 26 = .ok (.invokevirtual 179, 3) := by decide +kernel
theorem d20_29 : decode (mB m20) 29 = .ok (.aload_n 0, 1) := by decide +kernel
theorem d20_30 : decode (mB m20) 30 = .ok (.iload_n 1, 1) := by decide +kernel
theorem d20_31 : decode (mB m20) 31 = .ok (.invokevirtual 188, 3) := by decide +kernel
theorem d20_34 : decode (mB m20) 34 = .ok (.istore_n 2, 1) := by decide +kernel
theorem d20_35 : decode (mB m20) 35 = .ok (.iinc 3 1, 3) := by decide +kernel
theorem d20_38 : decode (mB m20) 38 = .ok (.goto (-30), 3) := by decide +kernel
theorem d20_41 : decode (mB m20) 41 = .ok (.iload_n 2, 1) := by decide +kernel
theorem d20_42 : decode (mB m20) 42 = .ok (.ireturn, 1) := by decide +kernel
theorem d21_0 : decode (mB m21) 0 = .ok (.iconst 0, 1) := by decide +kernel
theorem d21_1 : decode (mB m21) 1 = .ok (.istore_n 1, 1) := by decide +kernel
theorem d21_2 : decode (mB m21) 2 = .ok (.iload_n 1, 1) := by decide +kernel
theorem d21_3 : decode (mB m21) 3 = .ok (.bipush 32, 2) := by decide +kernel
theorem d21_5 : decode (mB m21) 5 = .ok (.if_icmp .ge 20, 3) := by decide +kernel
theorem d21_8 : decode (mB m21) 8 = .ok (.aload_n 0, 1) := by decide +kernel
theorem d21_9 : decode (mB m21) 9 = .ok (.getfield 26, 3) := by decide +kernel
theorem d21_12 : decode (mB m21) 12 = .ok (.iload_n 1, 1) := by decide +kernel
theorem d21_13 : decode (mB m21) 13 = .ok (.baload, 1) := by decide +kernel
theorem d21_14 : decode (mB m21) 14 = .ok (.ifCond .ne 5, 3) := by decide +kernel
theorem d21_17 : decode (mB m21) 17 = .ok (.iload_n 1, 1) := by decide +kernel
theorem d21_18 : decode (mB m21) 18 = .ok (.ireturn, 1) := by decide +kernel
theorem d21_19 : decode (mB m21) 19 = .ok (.iinc 1 1, 3) := by decide +kernel
theorem d21_22 : decode (mB m21) 22 = .ok (.goto (-20), 3) := by decide +kernel
theorem d21_25 : decode (mB m21) 25 = .ok (.iconst (-1), 1) := by decide +kernel
theorem d21_26 : decode (mB m21) 26 = .ok (.ireturn, 1) := by decide +kernel
theorem d22_0 : decode (mB m22) 0 = .ok (.iload_n 1, 1) := by decide +kernel
theorem d22_1 : decode (mB m22) 1 = .ok (.ifCond .lt 11, 3) := by decide +kernel
theorem d22_4 : decode (mB m22) 4 = .ok (.iload_n 1, 1) := by decide +kernel
theorem d22_5 : decode (mB m22) 5 = .ok (.aload_n 0, 1) := by decide +kernel
theorem d22_6 : decode (mB m22) 6 = .ok (.getfield 145, 3) := by decide +kernel
theorem d22_9 : decode (mB m22) 9 = .ok (.if_icmp .lt 4, 3) := by decide +kernel
theorem d22_12 : decode (mB m22) 12 = .ok (.return_, 1) := by decide +kernel
theorem d22_13 : decode (mB m22) 13 = .ok (.aload_n 0, 1) := by decide +kernel
theorem d22_14 : decode (mB m22) 14 = .ok (.getfield 32, 3) := by decide +kernel
theorem d22_17 : decode (mB m22) 17 = .ok (.iload_n 1, 1) := by decide +kernel
theorem d22_18 : decode (mB m22) 18 = .ok (.dup2, 1) := by decide +kernel
theorem d22_19 : decode (mB m22) 19 = .ok (.iaload, 1) := by decide +kernel
theorem d22_20 : decode (mB m22) 20 = .ok (.iload_n 2, 1) := by decide +kernel
theorem d22_21 : decode (mB m22) 21 = .ok (.iadd, 1) := by decide +kernel
theorem d22_22 : decode (mB m22) 22 = .ok (.iastore, 1) := by decide +kernel
theorem d22_23 : decode (mB m22) 23 = .ok (.aload_n 0, 1) := by decide +kernel
theorem d22_24 : decode (mB m22) 24 = .ok (.getfield 35, 3) := by decide +kernel
theorem d22_27 : decode (mB m22) 27 = .ok (.iload_n 1, 1) := by decide +kernel
theorem d22_28 : decode (mB m22) 28 = .ok (.dup2, 1) := by decide +kernel
theorem d22_29 : decode (mB m22) 29 = .ok (.iaload, 1) := by decide +kernel
theorem d22_30 : decode (mB m22) 30 = .ok (.iload_n 2, 1) := by decide +kernel
theorem d22_31 : decode (mB m22) 31 = .ok (.isub, 1) := by decide +kernel
theorem d22_32 : decode (mB m22) 32 = .ok (.iastore, 1) := by decide +kernel
theorem d22_33 : decode (mB m22) 33 = .ok (.aload_n 0, 1) := by decide +kernel
theorem d22_34 : decode (mB m22) 34 = .ok (.getfield 35, 3) := by decide +kernel
theorem d22_37 : decode (mB m22) 37 = .ok (.iload_n 1, 1) := by decide +kernel
theorem d22_38 : decode (mB m22) 38 = .ok (.iaload, 1) := by decide +kernel
theorem d22_39 : decode (mB m22) 39 = .ok (.ifCond .gt 8, 3) := by decide +kernel
theorem d22_42 : decode (mB m22) 42 = .ok (.aload_n 0, 1) := by decide +kernel
theorem d22_43 : decode (mB m22) 43 = .ok (.iload_n 1, 1) := by decide +kernel
theorem d22_44 : decode (mB m22) 44 = .ok (.invokevirtual 191, 3) := by decide +kernel
theorem d22_47 : decode (mB m22) 47 = .ok (.return_, 1) := by decide +kernel
theorem d23_0 : decode (mB m23) 0 = .ok (.aload_n 0, 1) := by decide +kernel
theorem d23_1 : decode (mB m23) 1 = .ok (.iload_n 1, 1) := by decide +kernel
theorem d23_2 : decode (mB m23) 2 = .ok (.invokevirtual 139, 3) := by decide +kernel
theorem d23_5 : decode (mB m23) 5 = .ok (.ifCond .ne 5, 3) := by decide +kernel
theorem d23_8 : decode (mB m23) 8 = .ok (.iconst (-1), 1) := by decide +kernel
theorem d23_9 : decode (mB m23) 9 = .ok (.ireturn, 1) := by decide +kernel
theorem d23_10 : decode (mB m23) 10 = .ok (.aload_n 0, 1) := by decide +kernel
theorem d23_11 : decode (mB m23) 11 = .ok (.getfield 20, 3) := by decide +kernel
theorem d23_14 : decode (mB m23) 14 = .ok (.iload_n 1, 1) := by decide +kernel
theorem d23_15 : decode (mB m23) 15 = .ok (.iaload, 1) := by decide +kernel
theorem d23_16 : decode (mB m23) 16 = .ok (.aload_n 0, 1) := by decide +kernel
theorem d23_17 : decode (mB m23) 17 = .ok (.getfield 46, 3) := by decide +kernel
theorem d23_20 : decode (mB m23) 20 = .ok (.iadd, 1) := by decide +kernel
theorem d23_21 : decode (mB m23) 21 = .ok (.ireturn, 1) := by decide +kernel
theorem d24_0 : decode (mB m24) 0 = .ok (.aload_n 0, 1) := by decide +kernel
theorem d24_1 : decode (mB m24) 1 = .ok (.iload_n 1, 1) := by decide +kernel
theorem d24_2 : decode (mB m24) 2 = .ok (.invokevirtual 139, 3) := by decide +kernel
theorem d24_5 : decode (mB m24) 5 = .ok (.ifCond .ne 5, 3) := by decide +kernel
theorem d24_8 : decode (mB m24) 8 = .ok (.iconst (-1), 1) := by decide +kernel
theorem d24_9 : decode (mB m24) 9 = .ok (.ireturn, 1) := by decide +kernel
theorem d24_10 : decode (mB m24) 10 = .ok (.aload_n 0, 1) := by decide +kernel
theorem d24_11 : decode (mB m24) 11 = .ok (.getfield 23, 3) := by decide +kernel
theorem d24_14 : decode (mB m24) 14 = .ok (.iload_n 1, 1) := by decide +kernel
theorem d24_15 : decode (mB m24) 15 = .ok (.iaload, 1) := by decide +kernel
theorem d24_16 : decode (mB m24) 16 = .ok (.istore_n 2, 1) := by decide +kernel
theorem d24_17 : decode (mB m24) 17 = .ok (.aload_n 0, 1) := by decide +kernel
theorem d24_18 : decode (mB m24) 18 = .ok (.iload_n 1, 1) := by decide +kernel
theorem d24_19 : decode (mB m24) 19 = .ok (.invokevirtual 151, 3) := by decide +kernel
theorem d24_22 : decode (mB m24) 22 = .ok (.aload_n 0, 1) := by decide +kernel
theorem d24_23 : decode (mB m24) 23 = .ok (.iload_n 2, 1) := by decide +kernel
theorem d24_24 : decode (mB m24) 24 = .ok (.invokevirtual 148, 3) := by decide +kernel
theorem d24_27 : decode (mB m24) 27 = .ok (.iadd, 1) := by decide +kernel
theorem d24_28 : decode (mB m24) 28 = .ok (.ireturn, 1) := by decide +kernel
theorem d25_0 : decode (mB m25) 0 = .ok (.aload_n 0, 1) := by decide +kernel
theorem d25_1 : decode (mB m25) 1 = .ok (.getfield 20, 3) := by decide +kernel
theorem d25_4 : decode (mB m25) 4 = .ok (.iload_n 1, 1) := by decide +kernel
theorem d25_5 : decode (mB m25) 5 = .ok (.iaload, 1) := by decide +kernel
theorem d25_6 : decode (mB m25) 6 = .ok (.istore_n 2, 1) := by decide +kernel
theorem d25_7 : decode (mB m25) 7 = .ok (.aload_n 0, 1) := by decide +kernel
theorem d25_8 : decode (mB m25) 8 = .ok (.iload_n 1, 1) := by decide +kernel
theorem d25_9 : decode (mB m25) 9 = .ok (.invokevirtual 151, 3) := by decide +kernel
theorem d25_12 : decode (mB m25) 12 = .ok (.istore_n 3, 1) := by decide +kernel
theorem d25_13 : decode (mB m25) 13 = .ok (.aload_n 0, 1) := by decide +kernel
theorem d25_14 : decode (mB m25) 14 = .ok (.iload_n 1, 1) := by decide +kernel
theorem d25_15 : decode (mB m25) 15 = .ok (.invokevirtual 154, 3) := by decide +kernel
theorem d25_18 : decode (mB m25) 18 = .ok (.istore 4, 2) := by decide +kernel
theorem d25_20 : decode (mB m25) 20 = .ok (.aload_n 0, 1) := by decide +kernel
theorem d25_21 : decode (mB m25) 21 = .ok (.getfield 23, 3) := by decide +kernel
theorem d25_24 : decode (mB m25) 24 = .ok (.iload_n 1, 1) := by decide +kernel
theorem d25_25 : decode (mB m25) 25 = .ok (.iaload, 1) := by decide +kernel
theorem d25_26 : decode (mB m25) 26 = .ok (.istore 5, 2) := by decide +kernel
theorem d25_28 : decode (mB m25) 28 = .ok (.aload_n 0, 1) := by decide +kernel
theorem d25_29 : decode (mB m25) 29 = .ok (.iload 5, 2) := by decide +kernel
theorem d25_31 : decode (mB m25) 31 = .ok (.invokevirtual 148, 3) := by decide +kernel
theorem d25_34 : decode (mB m25) 34 = .ok (.istore 6, 2) := by decide +kernel
theorem d25_36 : decode (mB m25) 36 = .ok (.aload_n 0, 1) := by decide +kernel
theorem d25_37 : decode (mB m25) 37 = .ok (.iload_n 2, 1) := by decide +kernel
theorem d25_38 : decode (mB m25) 38 = .ok (.aload_n 0, 1) := by decide +kernel
theorem d25_39 : decode (mB m25) 39 = .ok (.getfield 46, 3) := by decide +kernel
theorem d25_42 : decode (mB m25) 42 = .ok (.sipush 250, 3) := by decide +kernel
theorem d25_45 : decode (mB m25) 45 = .ok (.invokevirtual 157, 3) := by decide +kernel
theorem d25_48 : decode (mB m25) 48 = .ok (.aload_n 0, 1) := by decide +kernel
theorem d25_49 : decode (mB m25) 49 = .ok (.iload_n 3, 1) := by decide +kernel
theorem d25_50 : decode (mB m25) 50 = .ok (.iload 6, 2) := by decide +kernel
theorem d25_52 : decode (mB m25) 52 = .ok (.iconst 0, 1) := by decide +kernel
theorem d25_53 : decode (mB m25) 53 = .ok (.invokevirtual 157, 3) := by decide +kernel
theorem d25_56 : decode (mB m25) 56 = .ok (.aload_n 0, 1) := by decide +kernel
theorem d25_57 : decode (mB m25) 57 = .ok (.iload 4, 2) := by decide +kernel
theorem d25_59 : decode (mB m25) 59 = .ok (.aload_n 0, 1) := by decide +kernel
theorem d25_60 : decode (mB m25) 60 = .ok (.getfield 46, 3) := by decide +kernel
theorem d25_63 : decode (mB m25) 63 = .ok (.sipush 251, 3) := by decide +kernel
theorem d25_66 : decode (mB m25) 66 = .ok (.invokevirtual 157, 3) := by decide +kernel
theorem d25_69 : decode (mB m25) 69 = .ok (.iload 5, 2) := by decide +kernel
theorem d25_71 : decode (mB m25) 71 = .ok (.bipush 8, 2) := by decide +kernel
theorem d25_73 : decode (mB m25) 73 = .ok (.irem, 1) := by decide +kernel
theorem d25_74 : decode (mB m25) 74 = .ok (.istore 7, 2) := by decide +kernel
theorem d25_76 : decode (mB m25) 76 = .ok (.iload_n 3, 1) := by decide +kernel
theorem d25_77 : decode (mB m25) 77 = .ok (.iload 6, 2) := by decide +kernel
theorem d25_79 : decode (mB m25) 79 = .ok (.iadd, 1) := by decide +kernel
theorem d25_80 : decode (mB m25) 80 = .ok (.iconst 1, 1) := by decide +kernel
theorem d25_81 : decode (mB m25) 81 = .ok (.isub, 1) := by decide +kernel
theorem d25_82 : decode (mB m25) 82 = .ok (.istore 8, 2) := by decide +kernel
theorem d25_84 : decode (mB m25) 84 = .ok (.iload 7, 2) := by decide +kernel
theorem d25_86 : decode (mB m25) 86 = .ok (.ifCond .eq 26, 3) := by decide +kernel
theorem d25_89 : decode (mB m25) 89 = .ok (.iload 8, 2) := by decide +kernel
theorem d25_91 : decode (mB m25) 91 = .ok (.ifCond .lt 21, 3) := by decide +kernel
theorem d25_94 : decode (mB m25) 94 = .ok (.iload 8, 2) := by decide +kernel
theorem d25_96 : decode (mB m25) 96 = .ok (.aload_n 0, 1) := by decide +kernel
theorem d25_97 : decode (mB m25) 97 = .ok (.getfield 42, 3) := by decide +kernel
theorem d25_100 : decode (mB m25) 100 = .ok (.if_icmp .ge 12, 3) := by decide +kernel
theorem d25_103 : decode (mB m25) 103 = .ok (.aload_n 0, 1) := by decide +kernel
theorem d25_104 : decode (mB m25) 104 = .ok (.getfield 13, 3) := by decide +kernel
theorem d25_107 : decode (mB m25) 107 = .ok (.iload 8, 2) := by decide +kernel
theorem d25_109 : decode (mB m25) 109 = .ok (.iload 7, 2) := by decide +kernel
theorem d25_111 : decode (mB m25) 111 = .ok (.iastore, 1) := by decide +kernel
theorem d25_112 : decode (mB m25) 112 = .ok (.return_, 1) := by decide +kernel
theorem d26_0 : decode (mB m26) 0 = .ok (.aload_n 0, 1) := by decide +kernel
theorem d26_1 : decode (mB m26) 1 = .ok (.iload_n 1, 1) := by decide +kernel
theorem d26_2 : decode (mB m26) 2 = .ok (.invokevirtual 151, 3) := by decide +kernel
theorem d26_5 : decode (mB m26) 5 = .ok (.istore_n 2, 1) := by decide +kernel
theorem d26_6 : decode (mB m26) 6 = .ok (.bipush 8, 2) := by decide +kernel
theorem d26_8 : decode (mB m26) 8 = .ok (.iload_n 2, 1) := by decide +kernel
theorem d26_9 : decode (mB m26) 9 = .ok (.imul, 1) := by decide +kernel
theorem d26_10 : decode (mB m26) 10 = .ok (.ireturn, 1) := by decide +kernel
theorem d27_0 : decode (mB m27) 0 = .ok (.aload_n 0, 1) := by decide +kernel
theorem d27_1 : decode (mB m27) 1 = .ok (.iload_n 1, 1) := by decide +kernel
theorem d27_2 : decode (mB m27) 2 = .ok (.invokevirtual 142, 3) := by decide +kernel
theorem d27_5 : decode (mB m27) 5 = .ok (.istore_n 2, 1) := by decide +kernel
theorem d27_6 : decode (mB m27) 6 = .ok (.aload_n 0, 1) := by decide +kernel
theorem d27_7 : decode (mB m27) 7 = .ok (.getfield 23, 3) := by decide +kernel
theorem d27_10 : decode (mB m27) 10 = .ok (.iload_n 1, 1) := by decide +kernel
theorem d27_11 : decode (mB m27) 11 = .ok (.iaload, 1) := by decide +kernel
theorem d27_12 : decode (mB m27) 12 = .ok (.istore_n 3, 1) := by decide +kernel
theorem d27_13 : decode (mB m27) 13 = .ok (.iconst 0, 1) := by decide +kernel
theorem d27_14 : decode (mB m27) 14 = .ok (.istore 4, 2) := by decide +kernel
theorem d27_16 : decode (mB m27) 16 = .ok (.iload 4, 2) := by decide +kernel
theorem d27_18 : decode (mB m27) 18 = .ok (.iload_n 3, 1) := by decide +kernel
theorem d27_19 : decode (mB m27) 19 = .ok (.if_icmp .ge 44, 3) := by decide +kernel
theorem d27_22 : decode (mB m27) 22 = .ok (.iload 4, 2) := by decide +kernel
theorem d27_24 : decode (mB m27) 24 = .ok (.bipush 64, 2) := by decide +kernel
theorem d27_26 : decode (mB m27) 26 = .ok (.if_icmp .ge 37, 3) := by decide +kernel
theorem d27_29 : decode (mB m27) 29 = .ok (.iload_n 2, 1) := by decide +kernel
theorem d27_30 : decode (mB m27) 30 = .ok (.iload 4, 2) := by decide +kernel
theorem d27_32 : decode (mB m27) 32 = .ok (.iadd, 1) := by decide +kernel
theorem d27_33 : decode (mB m27) 33 = .ok (.istore 5, 2) := by decide +kernel
theorem d27_35 : decode (mB m27) 35 = .ok (.iload 5, 2) := by decide +kernel
theorem d27_37 : decode (mB m27) 37 = .ok (.ifCond .lt 20, 3) := by decide +kernel
theorem d27_40 : decode (mB m27) 40 = .ok (.iload 5, 2) := by decide +kernel
theorem d27_42 : decode (mB m27) 42 = .ok (.aload_n 0, 1) := by decide +kernel
theorem d27_43 : decode (mB m27) 43 = .ok (.getfield 52, 3) := by decide +kernel
theorem d27_46 : decode (mB m27) 46 = .ok (.if_icmp .ge 11, 3) := by decide +kernel
theorem d27_49 : decode (mB m27) 49 = .ok (.aload_n 0, 1) := by decide +kernel
theorem d27_50 : decode (mB m27) 50 = .ok (.getfield 7, 3) := by decide +kernel
theorem d27_53 : decode (mB m27) 53 = .ok (.iload 5, 2) := by decide +kernel
theorem d27_55 : decode (mB m27) 55 = .ok (.iconst 0, 1) := by decide +kernel
theorem d27_56 : decode (mB m27) 56 = .ok (.bastore, 1) := by decide +kernel
theorem d27_57 : decode (mB m27) 57 = .ok (.iinc 4 1, 3) := by decide +kernel
theorem d27_60 : decode (mB m27) 60 = .ok (.goto (-44), 3) := by decide +kernel
theorem d27_63 : decode (mB m27) 63 = .ok (.return_, 1) := by decide +kernel
theorem d28_0 : decode (mB m28) 0 = .ok (.aload_n 0, 1) := by decide +kernel
theorem d28_1 : decode (mB m28) 1 = .ok (.getfield 20, 3) := by decide +kernel
theorem d28_4 : decode (mB m28) 4 = .ok (.iload_n 1, 1) := by decide +kernel
theorem d28_5 : decode (mB m28) 5 = .ok (.iload_n 2, 1) := by decide +kernel
theorem d28_6 : decode (mB m28) 6 = .ok (.iastore, 1) := by decide +kernel
theorem d28_7 : decode (mB m28) 7 = .ok (.aload_n 0, 1) := by decide +kernel
theorem d28_8 : decode (mB m28) 8 = .ok (.getfield 23, 3) := by decide +kernel
theorem d28_11 : decode (mB m28) 11 = .ok (.iload_n 1, 1) := by decide +kernel
theorem d28_12 : decode (mB m28) 12 = .ok (.iload_n 3, 1) := by decide +kernel
theorem d28_13 : decode (mB m28) 13 = .ok (.iastore, 1) := by decide +kernel
theorem d28_14 : decode (mB m28) 14 = .ok (.aload_n 0, 1) := by decide +kernel
theorem d28_15 : decode (mB m28) 15 = .ok (.getfield 26, 3) := by decide +kernel
theorem d28_18 : decode (mB m28) 18 = .ok (.iload_n 1, 1) := by decide +kernel
theorem d28_19 : decode (mB m28) 19 = .ok (.iconst 1, 1) := by decide +kernel
theorem d28_20 : decode (mB m28) 20 = .ok (.bastore, 1) := by decide +kernel
theorem d28_21 : decode (mB m28) 21 = .ok (.aload_n 0, 1) := by decide +kernel
theorem d28_22 : decode (mB m28) 22 = .ok (.iload_n 3, 1) := by decide +kernel
theorem d28_23 : decode (mB m28) 23 = .ok (.invokevirtual 80, 3) := by decide +kernel
theorem d28_26 : decode (mB m28) 26 = .ok (.istore 4, 2) := by decide +kernel
theorem d28_28 : decode (mB m28) 28 = .ok (.aload_n 0, 1) := by decide +kernel
theorem d28_29 : decode (mB m28) 29 = .ok (.iload_n 2, 1) := by decide +kernel
theorem d28_30 : decode (mB m28) 30 = .ok (.iload 4, 2) := by decide +kernel
theorem d28_32 : decode (mB m28) 32 = .ok (.iload_n 1, 1) := by decide +kernel
theorem d28_33 : decode (mB m28) 33 = .ok (.invokevirtual 161, 3) := by decide +kernel
theorem d28_36 : decode (mB m28) 36 = .ok (.aload_n 0, 1) := by decide +kernel
theorem d28_37 : decode (mB m28) 37 = .ok (.iload_n 1, 1) := by decide +kernel
theorem d28_38 : decode (mB m28) 38 = .ok (.invokevirtual 164, 3) := by decide +kernel
theorem d28_41 : decode (mB m28) 41 = .ok (.aload_n 0, 1) := by decide +kernel
theorem d28_42 : decode (mB m28) 42 = .ok (.iload_n 1, 1) := by decide +kernel
theorem d28_43 : decode (mB m28) 43 = .ok (.invokevirtual 167, 3) := by decide +kernel
theorem d28_46 : decode (mB m28) 46 = .ok (.aload_n 0, 1) := by decide +kernel
theorem d28_47 : decode (mB m28) 47 = .ok (.dup, 1) := by decide +kernel
theorem d28_48 : decode (mB m28) 48 = .ok (.getfield 67, 3) := by decide +kernel
theorem d28_51 : decode (mB m28) 51 = .ok (.iconst 1, 1) := by decide +kernel
theorem d28_52 : decode (mB m28) 52 = .ok (.iadd, 1) := by decide +kernel
theorem d28_53 : decode (mB m28) 53 = .ok (.putfield 67, 3) := by decide +kernel
theorem d28_56 : decode (mB m28) 56 = .ok (.aload_n 0, 1) := by decide +kernel
theorem d28_57 : decode (mB m28) 57 = .ok (.iload_n 1, 1) := by decide +kernel
theorem d28_58 : decode (mB m28) 58 = .ok (.invokevirtual 142, 3) := by decide +kernel
theorem d28_61 : decode (mB m28) 61 = .ok (.ireturn, 1) := by decide +kernel
theorem d29_0 : decode (mB m29) 0 = .ok (.iload_n 1, 1) := by decide +kernel
theorem d29_1 : decode (mB m29) 1 = .ok (.iconst 1, 1) := by decide +kernel
theorem d29_2 : decode (mB m29) 2 = .ok (.if_icmp .lt 9, 3) := by decide +kernel
theorem d29_5 : decode (mB m29) 5 = .ok (.iload_n 1, 1) := by decide +kernel
theorem d29_6 : decode (mB m29) 6 = .ok (.bipush 64, 2) := by decide +kernel
theorem d29_8 : decode (mB m29) 8 = .ok (.if_icmp .le 5, 3) := by decide +kernel
theorem d29_11 : decode (mB m29) 11 = .ok (.iconst (-1), 1) := by decide +kernel
theorem d29_12 : decode (mB m29) 12 = .ok (.ireturn, 1) := by decide +kernel
theorem d29_13 : decode (mB m29) 13 = .ok (.aload_n 0, 1) := by decide +kernel
theorem d29_14 : decode (mB m29) 14 = .ok (.iload_n 1, 1) := by decide +kernel
theorem d29_15 : decode (mB m29) 15 = .ok (.invokevirtual 80, 3) := by decide +kernel
theorem d29_18 : decode (mB m29) 18 = .ok (.istore_n 2, 1) := by decide +kernel
theorem d29_19 : decode (mB m29) 19 = .ok (.aload_n 0, 1) := by decide +kernel
theorem d29_20 : decode (mB m29) 20 = .ok (.iload_n 2, 1) := by decide +kernel
theorem d29_21 : decode (mB m29) 21 = .ok (.invokevirtual 84, 3) := by decide +kernel
theorem d29_24 : decode (mB m29) 24 = .ok (.istore_n 3, 1) := by decide +kernel
theorem d29_25 : decode (mB m29) 25 = .ok (.iload_n 3, 1) := by decide +kernel
theorem d29_26 : decode (mB m29) 26 = .ok (.ifCond .ge 6, 3) := by decide +kernel
theorem d29_29 : decode (mB m29) 29 = .ok (.bipush (-2), 2) := by decide +kernel
theorem d29_31 : decode (mB m29) 31 = .ok (.ireturn, 1) := by decide +kernel
theorem d29_32 : decode (mB m29) 32 = .ok (.aload_n 0, 1) := by decide +kernel
theorem d29_33 : decode (mB m29) 33 = .ok (.invokevirtual 87, 3) := by decide +kernel
theorem d29_36 : decode (mB m29) 36 = .ok (.istore 4, 2) := by decide +kernel
theorem d29_38 : decode (mB m29) 38 = .ok (.iload 4, 2) := by decide +kernel
theorem d29_40 : decode (mB m29) 40 = .ok (.ifCond .ge 6, 3) := by decide +kernel
theorem d29_43 : decode (mB m29) 43 = .ok (.bipush (-2), 2) := by decide +kernel
theorem d29_45 : decode (mB m29) 45 = .ok (.ireturn, 1) := by decide +kernel
theorem d29_46 : decode (mB m29) 46 = .ok (.aload_n 0, 1) := by decide +kernel
theorem d29_47 : decode (mB m29) 47 = .ok (.getfield 32, 3) := by decide +kernel
theorem d29_50 : decode (mB m29) 50 = .ok (.iload_n 3, 1) := by decide +kernel
theorem d29_51 : decode (mB m29) 51 = .ok (.iaload, 1) := by decide +kernel
theorem d29_52 : decode (mB m29) 52 = .ok (.istore 5, 2) := by decide +kernel
theorem d29_54 : decode (mB m29) 54 = .ok (.aload_n 0, 1) := by decide +kernel
theorem d29_55 : decode (mB m29) 55 = .ok (.iload_n 3, 1) := by decide +kernel
theorem d29_56 : decode (mB m29) 56 = .ok (.iload_n 2, 1) := by decide +kernel
theorem d29_57 : decode (mB m29) 57 = .ok (.invokevirtual 91, 3) := by decide +kernel
theorem d29_60 : decode (mB m29) 60 = .ok (.aload_n 0, 1) := by decide +kernel
theorem d29_61 : decode (mB m29) 61 = .ok (.iload 4, 2) := by decide +kernel
theorem d29_63 : decode (mB m29) 63 = .ok (.iload 5, 2) := by decide +kernel
theorem d29_65 : decode (mB m29) 65 = .ok (.iload_n 1, 1) := by decide +kernel
theorem d29_66 : decode (mB m29) 66 = .ok (.invokevirtual 95, 3) := by decide +kernel
theorem d29_69 : decode (mB m29) 69 = .ok (.ireturn, 1) := by decide +kernel
theorem d30_0 : decode (mB m30) 0 = .ok (.aload_n 0, 1) := by decide +kernel
theorem d30_1 : decode (mB m30) 1 = .ok (.getfield 130, 3) := by decide +kernel
theorem d30_4 : decode (mB m30) 4 = .ok (.ireturn, 1) := by decide +kernel
theorem d31_0 : decode (mB m31) 0 = .ok (.aload_n 0, 1) := by decide +kernel
theorem d31_1 : decode (mB m31) 1 = .ok (.getfield 133, 3) := by decide +kernel
theorem d31_4 : decode (mB m31) 4 = .ok (.ireturn, 1) := by decide +kernel
theorem d32_0 : decode (mB m32) 0 = .ok (.iconst 0, 1) := by decide +kernel
theorem d32_1 : decode (mB m32) 1 = .ok (.istore_n 1, 1) := by decide +kernel
theorem d32_2 : decode (mB m32) 2 = .ok (.iconst 0, 1) := by decide +kernel
theorem d32_3 : decode (mB m32) 3 = .ok (.istore_n 2, 1) := by decide +kernel
theorem d32_4 : decode (mB m32) 4 = .ok (.iload_n 2, 1) := by decide +kernel
theorem d32_5 : decode (mB m32) 5 = .ok (.aload_n 0, 1) := by decide +kernel
theorem d32_6 : decode (mB m32) 6 = .ok (.getfield 145, 3) := by decide +kernel
theorem d32_9 : decode (mB m32) 9 = .ok (.if_icmp .ge 32, 3) := by decide +kernel
theorem d32_12 : decode (mB m32) 12 = .ok (.iload_n 2, 1) := by decide +kernel
theorem d32_13 : decode (mB m32) 13 = .ok (.bipush 32, 2) := by decide +kernel
theorem d32_15 : decode (mB m32) 15 = .ok (.if_icmp .ge 26, 3) := by decide +kernel
theorem d32_18 : decode (mB m32) 18 = .ok (.aload_n 0, 1) := by decide +kernel
theorem d32_19 : decode (mB m32) 19 = .ok (.getfield 35, 3) := by decide +kernel
theorem d32_22 : decode (mB m32) 22 = .ok (.iload_n 2, 1) := by decide +kernel
theorem d32_23 : decode (mB m32) 23 = .ok (.iaload, 1) := by decide +kernel
theorem d32_24 : decode (mB m32) 24 = .ok (.iload_n 1, 1) := by decide +kernel
theorem d32_25 : decode (mB m32) 25 = .ok (.if_icmp .le 10, 3) := by decide +kernel
theorem d32_28 : decode (mB m32) 28 = .ok (.aload_n 0, 1) := by decide +kernel
theorem d32_29 : decode (mB m32) 29 = .ok (.getfield 35, 3) := by decide +kernel
theorem d32_32 : decode (mB m32) 32 = .ok (.iload_n 2, 1) := by decide +kernel
theorem d32_33 : decode (mB m32) 33 = .ok (.iaload, 1) := by decide +kernel
theorem d32_34 : decode (mB m32) 34 = .ok (.istore_n 1, 1) := by decide +kernel
theorem d32_35 : decode (mB m32) 35 = .ok (.iinc 2 1, 3) := by decide +kernel
theorem d32_38 : decode (mB m32) 38 = .ok (.goto (-34), 3) := by decide +kernel
theorem d32_41 : decode (mB m32) 41 = .ok (.iload_n 1, 1) := by decide +kernel
theorem d32_42 : decode (mB m32) 42 = .ok (.ireturn, 1) := by decide +kernel
theorem d33_0 : decode (mB m33) 0 = .ok (.iload_n 1, 1) := by decide +kernel
theorem d33_1 : decode (mB m33) 1 = .ok (.ifCond .lt 11, 3) := by decide +kernel
theorem d33_4 : decode (mB m33) 4 = .ok (.iload_n 1, 1) := by decide +kernel
theorem d33_5 : decode (mB m33) 5 = .ok (.aload_n 0, 1) := by decide +kernel
theorem d33_6 : decode (mB m33) 6 = .ok (.getfield 52, 3) := by decide +kernel
theorem d33_9 : decode (mB m33) 9 = .ok (.if_icmp .lt 5, 3) := by decide +kernel
theorem d33_12 : decode (mB m33) 12 = .ok (.iconst (-1), 1) := by decide +kernel
theorem d33_13 : decode (mB m33) 13 = .ok (.ireturn, 1) := by decide +kernel
theorem d33_14 : decode (mB m33) 14 = .ok (.iload_n 1, 1) := by decide +kernel
theorem d33_15 : decode (mB m33) 15 = .ok (.bipush 7, 2) := by decide +kernel
theorem d33_17 : decode (mB m33) 17 = .ok (.iand, 1) := by decide +kernel
theorem d33_18 : decode (mB m33) 18 = .ok (.ifCond .eq 5, 3) := by decide +kernel
theorem d33_21 : decode (mB m33) 21 = .ok (.iconst (-1), 1) := by decide +kernel
theorem d33_22 : decode (mB m33) 22 = .ok (.ireturn, 1) := by decide +kernel
theorem d33_23 : decode (mB m33) 23 = .ok (.iload_n 1, 1) := by decide +kernel
theorem d33_24 : decode (mB m33) 24 = .ok (.iconst 3, 1) := by decide +kernel
theorem d33_25 : decode (mB m33) 25 = .ok (.ishr, 1) := by decide +kernel
theorem d33_26 : decode (mB m33) 26 = .ok (.istore_n 2, 1) := by decide +kernel
theorem d33_27 : decode (mB m33) 27 = .ok (.aload_n 0, 1) := by decide +kernel
theorem d33_28 : decode (mB m33) 28 = .ok (.getfield 17, 3) := by decide +kernel
theorem d33_31 : decode (mB m33) 31 = .ok (.iload_n 2, 1) := by decide +kernel
theorem d33_32 : decode (mB m33) 32 = .ok (.iaload, 1) := by decide +kernel
theorem d33_33 : decode (mB m33) 33 = .ok (.istore_n 3, 1) := by decide +kernel
theorem d33_34 : decode (mB m33) 34 = .ok (.aload_n 0, 1) := by decide +kernel
theorem d33_35 : decode (mB m33) 35 = .ok (.iload_n 3, 1) := by decide +kernel
theorem d33_36 : decode (mB m33) 36 = .ok (.invokevirtual 139, 3) := by decide +kernel
theorem d33_39 : decode (mB m33) 39 = .ok (.ifCond .ne 5, 3) := by decide +kernel
theorem d33_42 : decode (mB m33) 42 = .ok (.iconst (-1), 1) := by decide +kernel
theorem d33_43 : decode (mB m33) 43 = .ok (.ireturn, 1) := by decide +kernel
theorem d33_44 : decode (mB m33) 44 = .ok (.aload_n 0, 1) := by decide +kernel
theorem d33_45 : decode (mB m33) 45 = .ok (.getfield 26, 3) := by decide +kernel
theorem d33_48 : decode (mB m33) 48 = .ok (.iload_n 3, 1) := by decide +kernel
theorem d33_49 : decode (mB m33) 49 = .ok (.baload, 1) := by decide +kernel
theorem d33_50 : decode (mB m33) 50 = .ok (.ifCond .ne 5, 3) := by decide +kernel
theorem d33_53 : decode (mB m33) 53 = .ok (.iconst (-1), 1) := by decide +kernel
theorem d33_54 : decode (mB m33) 54 = .ok (.ireturn, 1) := by decide +kernel
theorem d33_55 : decode (mB m33) 55 = .ok (.aload_n 0, 1) := by decide +kernel
theorem d33_56 : decode (mB m33) 56 = .ok (.iload_n 3, 1) := by decide +kernel
theorem d33_57 : decode (mB m33) 57 = .ok (.invokevirtual 151, 3) := by decide +kernel
theorem d33_60 : decode (mB m33) 60 = .ok (.iload_n 2, 1) := by decide +kernel
theorem d33_61 : decode (mB m33) 61 = .ok (.if_icmp .eq 5, 3) := by decide +kernel
theorem d33_64 : decode (mB m33) 64 = .ok (.iconst (-1), 1) := by decide +kernel
theorem d33_65 : decode (mB m33) 65 = .ok (.ireturn, 1) := by decide +kernel
theorem d33_66 : decode (mB m33) 66 = .ok (.iload_n 3, 1) := by decide +kernel
theorem d33_67 : decode (mB m33) 67 = .ok (.ireturn, 1) := by decide +kernel
theorem d34_0 : decode (mB m34) 0 = .ok (.aload_n 0, 1) := by decide +kernel
theorem d34_1 : decode (mB m34) 1 = .ok (.iload_n 1, 1) := by decide +kernel
theorem d34_2 : decode (mB m34) 2 = .ok (.invokevirtual 139, 3) := by decide +kernel
theorem d34_5 : decode (mB m34) 5 = .ok (.ifCond .eq 17, 3) := by decide +kernel
theorem d34_8 : decode (mB m34) 8 = .ok (.aload_n 0, 1) := by decide +kernel
theorem d34_9 : decode (mB m34) 9 = .ok (.getfield 26, 3) := by decide +kernel
theorem d34_12 : decode (mB m34) 12 = .ok (.iload_n 1, 1) := by decide +kernel
theorem d34_13 : decode (mB m34) 13 = .ok (.baload, 1) := by decide +kernel
theorem d34_14 : decode (mB m34) 14 = .ok (.iconst 1, 1) := by decide +kernel
theorem d34_15 : decode (mB m34) 15 = .ok (.if_icmp .ne 7, 3) := by decide +kernel
theorem d34_18 : decode (mB m34) 18 = .ok (.iconst 1, 1) := by decide +kernel
theorem d34_19 : decode (mB m34) 19 = .ok (.goto 4, 3) := by decide +kernel
theorem d34_22 : decode (mB m34) 22 = .ok (.iconst 0, 1) := by decide +kernel
theorem d34_23 : decode (mB m34) 23 = .ok (.ireturn, 1) := by decide +kernel
theorem d35_0 : decode (mB m35) 0 = .ok (.aload_n 0, 1) := by decide +kernel
theorem d35_1 : decode (mB m35) 1 = .ok (.iload_n 1, 1) := by decide +kernel
theorem d35_2 : decode (mB m35) 2 = .ok (.invokevirtual 98, 3) := by decide +kernel
theorem d35_5 : decode (mB m35) 5 = .ok (.istore_n 2, 1) := by decide +kernel
theorem d35_6 : decode (mB m35) 6 = .ok (.aload_n 0, 1) := by decide +kernel
theorem d35_7 : decode (mB m35) 7 = .ok (.iload_n 2, 1) := by decide +kernel
theorem d35_8 : decode (mB m35) 8 = .ok (.invokevirtual 105, 3) := by decide +kernel
theorem d35_11 : decode (mB m35) 11 = .ok (.ifCond .ne 5, 3) := by decide +kernel
theorem d35_14 : decode (mB m35) 14 = .ok (.iconst (-1), 1) := by decide +kernel
theorem d35_15 : decode (mB m35) 15 = .ok (.ireturn, 1) := by decide +kernel
theorem d35_16 : decode (mB m35) 16 = .ok (.aload_n 0, 1) := by decide +kernel
theorem d35_17 : decode (mB m35) 17 = .ok (.getfield 23, 3) := by decide +kernel
theorem d35_20 : decode (mB m35) 20 = .ok (.iload_n 2, 1) := by decide +kernel
theorem d35_21 : decode (mB m35) 21 = .ok (.iaload, 1) := by decide +kernel
theorem d35_22 : decode (mB m35) 22 = .ok (.ireturn, 1) := by decide +kernel
theorem d36_0 : decode (mB m36) 0 = .ok (.iload_n 1, 1) := by decide +kernel
theorem d36_1 : decode (mB m36) 1 = .ok (.ifCond .lt 11, 3) := by decide +kernel
theorem d36_4 : decode (mB m36) 4 = .ok (.iload_n 1, 1) := by decide +kernel
theorem d36_5 : decode (mB m36) 5 = .ok (.aload_n 0, 1) := by decide +kernel
theorem d36_6 : decode (mB m36) 6 = .ok (.getfield 42, 3) := by decide +kernel
theorem d36_9 : decode (mB m36) 9 = .ok (.if_icmp .lt 5, 3) := by decide +kernel
theorem d36_12 : decode (mB m36) 12 = .ok (.iconst (-1), 1) := by decide +kernel
theorem d36_13 : decode (mB m36) 13 = .ok (.ireturn, 1) := by decide +kernel
theorem d36_14 : decode (mB m36) 14 = .ok (.aload_n 0, 1) := by decide +kernel
theorem d36_15 : decode (mB m36) 15 = .ok (.getfield 13, 3) := by decide +kernel
theorem d36_18 : decode (mB m36) 18 = .ok (.iload_n 1, 1) := by decide +kernel
theorem d36_19 : decode (mB m36) 19 = .ok (.iaload, 1) := by decide +kernel
theorem d36_20 : decode (mB m36) 20 = .ok (.ireturn, 1) := by decide +kernel
theorem d37_0 : decode (mB m37) 0 = .ok (.aload_n 0, 1) := by decide +kernel
theorem d37_1 : decode (mB m37) 1 = .ok (.iload_n 1, 1) := by decide +kernel
theorem d37_2 : decode (mB m37) 2 = .ok (.invokevirtual 151, 3) := by decide +kernel
theorem d37_5 : decode (mB m37) 5 = .ok (.istore_n 2, 1) := by decide +kernel
theorem d37_6 : decode (mB m37) 6 = .ok (.aload_n 0, 1) := by decide +kernel
theorem d37_7 : decode (mB m37) 7 = .ok (.getfield 23, 3) := by decide +kernel
theorem d37_10 : decode (mB m37) 10 = .ok (.iload_n 1, 1) := by decide +kernel
theorem d37_11 : decode (mB m37) 11 = .ok (.iaload, 1) := by decide +kernel
theorem d37_12 : decode (mB m37) 12 = .ok (.istore_n 3, 1) := by decide +kernel
theorem d37_13 : decode (mB m37) 13 = .ok (.aload_n 0, 1) := by decide +kernel
theorem d37_14 : decode (mB m37) 14 = .ok (.iload_n 3, 1) := by decide +kernel
theorem d37_15 : decode (mB m37) 15 = .ok (.invokevirtual 148, 3) := by decide +kernel
theorem d37_18 : decode (mB m37) 18 = .ok (.istore 4, 2) := by decide +kernel
theorem d37_20 : decode (mB m37) 20 = .ok (.aload_n 0, 1) := by decide +kernel
theorem d37_21 : decode (mB m37) 21 = .ok (.iload_n 2, 1) := by decide +kernel
theorem d37_22 : decode (mB m37) 22 = .ok (.iload 4, 2) := by decide +kernel
theorem d37_24 : decode (mB m37) 24 = .ok (.sipush 253, 3) := by decide +kernel
theorem d37_27 : decode (mB m37) 27 = .ok (.invokevirtual 157, 3) := by decide +kernel
theorem d37_30 : decode (mB m37) 30 = .ok (.return_, 1) := by decide +kernel
theorem d38_0 : decode (mB m38) 0 = .ok (.aload_n 0, 1) := by decide +kernel
theorem d38_1 : decode (mB m38) 1 = .ok (.getfield 130, 3) := by decide +kernel
theorem d38_4 : decode (mB m38) 4 = .ok (.bipush 32, 2) := by decide +kernel
theorem d38_6 : decode (mB m38) 6 = .ok (.if_icmp .lt 7, 3) := by decide +kernel
theorem d38_9 : decode (mB m38) 9 = .ok (.aload_n 0, 1) := by decide +kernel
theorem d38_10 : decode (mB m38) 10 = .ok (.invokevirtual 179, 3) := by decide +kernel
theorem d38_13 : decode (mB m38) 13 = .ok (.aload_n 0, 1) := by decide +kernel
theorem d38_14 : decode (mB m38) 14 = .ok (.getfield 136, 3) := by decide +kernel
theorem d38_17 : decode (mB m38) 17 = .ok (.aload_n 0, 1) := by decide +kernel
theorem d38_18 : decode (mB m38) 18 = .ok (.getfield 130, 3) := by decide +kernel
theorem d38_21 : decode (mB m38) 21 = .ok (.iadd, 1) := by decide +kernel
theorem d38_22 : decode (mB m38) 22 = .ok (.bipush 31, 2) := by decide +kernel
theorem d38_24 : decode (mB m38) 24 = .ok (.iand, 1) := by decide +kernel
theorem d38_25 : decode (mB m38) 25 = .ok (.istore_n 2, 1) := by decide +kernel
theorem d38_26 : decode (mB m38) 26 = .ok (.aload_n 0, 1) := by decide +kernel
theorem d38_27 : decode (mB m38) 27 = .ok (.getfield 29, 3) := by decide +kernel
theorem d38_30 : decode (mB m38) 30 = .ok (.iload_n 2, 1) := by decide +kernel
theorem d38_31 : decode (mB m38) 31 = .ok (.iload_n 1, 1) := by decide +kernel
theorem d38_32 : decode (mB m38) 32 = .ok (.iastore, 1) := by decide +kernel
theorem d38_33 : decode (mB m38) 33 = .ok (.aload_n 0, 1) := by decide +kernel
theorem d38_34 : decode (mB m38) 34 = .ok (.dup, 1) := by decide +kernel
theorem d38_35 : decode (mB m38) 35 = .ok (.getfield 130, 3) := by decide +kernel
theorem d38_38 : decode (mB m38) 38 = .ok (.iconst 1, 1) := by decide +kernel
theorem d38_39 : decode (mB m38) 39 = .ok (.iadd, 1) := by decide +kernel
theorem d38_40 : decode (mB m38) 40 = .ok (.putfield 130, 3) := by decide +kernel
theorem d38_43 : decode (mB m38) 43 = .ok (.aload_n 0, 1) := by decide +kernel
theorem d38_44 : decode (mB m38) 44 = .ok (.dup, 1) := by decide +kernel
theorem d38_45 : decode (mB m38) 45 = .ok (.getfield 133, 3) := by decide +kernel
theorem d38_48 : decode (mB m38) 48 = .ok (.aload_n 0, 1) := by decide +kernel
theorem d38_49 : decode (mB m38) 49 = .ok (.iload_n 1, 1) := by decide +kernel
theorem d38_50 : decode (mB m38) 50 = .ok (.invokevirtual 182, 3) := by decide +kernel
theorem d38_53 : decode (mB m38) 53 = .ok (.iadd, 1) := by decide +kernel
theorem d38_54 : decode (mB m38) 54 = .ok (.putfield 133, 3) := by decide +kernel
theorem d38_57 : decode (mB m38) 57 = .ok (.return_, 1) := by decide +kernel
theorem d39_0 : decode (mB m39) 0 = .ok (.aload_n 0, 1) := by decide +kernel
theorem d39_1 : decode (mB m39) 1 = .ok (.getfield 26, 3) := by decide +kernel
theorem d39_4 : decode (mB m39) 4 = .ok (.iload_n 1, 1) := by decide +kernel
theorem d39_5 : decode (mB m39) 5 = .ok (.iconst 2, 1) := by decide +kernel
theorem d39_6 : decode (mB m39) 6 = .ok (.bastore, 1) := by decide +kernel
theorem d39_7 : decode (mB m39) 7 = .ok (.aload_n 0, 1) := by decide +kernel
theorem d39_8 : decode (mB m39) 8 = .ok (.iload_n 1, 1) := by decide +kernel
theorem d39_9 : decode (mB m39) 9 = .ok (.invokevirtual 170, 3) := by decide +kernel
theorem d39_12 : decode (mB m39) 12 = .ok (.aload_n 0, 1) := by decide +kernel
theorem d39_13 : decode (mB m39) 13 = .ok (.dup, 1) := by decide +kernel
theorem d39_14 : decode (mB m39) 14 = .ok (.getfield 67, 3) := by decide +kernel
theorem d39_17 : decode (mB m39) 17 = .ok (.iconst 1, 1) := by decide +kernel
theorem d39_18 : decode (mB m39) 18 = .ok (.isub, 1) := by decide +kernel
theorem d39_19 : decode (mB m39) 19 = .ok (.putfield 67, 3) := by decide +kernel
theorem d39_22 : decode (mB m39) 22 = .ok (.aload_n 0, 1) := by decide +kernel
theorem d39_23 : decode (mB m39) 23 = .ok (.iload_n 1, 1) := by decide +kernel
theorem d39_24 : decode (mB m39) 24 = .ok (.invokevirtual 173, 3) := by decide +kernel
theorem d39_27 : decode (mB m39) 27 = .ok (.return_, 1) := by decide +kernel
theorem d40_0 : decode (mB m40) 0 = .ok (.iconst 0, 1) := by decide +kernel
theorem d40_1 : decode (mB m40) 1 = .ok (.istore_n 1, 1) := by decide +kernel
theorem d40_2 : decode (mB m40) 2 = .ok (.iload_n 1, 1) := by decide +kernel
theorem d40_3 : decode (mB m40) 3 = .ok (.bipush 64, 2) := by decide +kernel
theorem d40_5 : decode (mB m40) 5 = .ok (.if_icmp .ge 31, 3) := by decide +kernel
theorem d40_8 : decode (mB m40) 8 = .ok (.aload_n 0, 1) := by decide +kernel
theorem d40_9 : decode (mB m40) 9 = .ok (.getfield 133, 3) := by decide +kernel
theorem d40_12 : decode (mB m40) 12 = .ok (.aload_n 0, 1) := by decide +kernel
theorem d40_13 : decode (mB m40) 13 = .ok (.getfield 49, 3) := by decide +kernel
theorem d40_16 : decode (mB m40) 16 = .ok (.if_icmp .le 20, 3) := by decide +kernel
theorem d40_19 : decode (mB m40) 19 = .ok (.aload_n 0, 1) := by decide +kernel
theorem d40_20 : decode (mB m40) 20 = .ok (.getfield 130, 3) := by decide +kernel
theorem d40_23 : decode (mB m40) 23 = .ok (.ifCond .le 13, 3) := by decide +kernel
theorem d40_26 : decode (mB m40) 26 = .ok (.aload_n 0, 1) := by decide +kernel
theorem d40_27 : decode (mB m40) 27 = .ok (.invokevirtual 179, 3) := by decide +kernel
theorem d40_30 : decode (mB m40) 30 = .ok (.iinc 1 1, 3) := by decide +kernel
theorem d40_33 : decode (mB m40) 33 = .ok (.goto (-31), 3) := by decide +kernel
theorem d40_36 : decode (mB m40) 36 = .ok (.return_, 1) := by decide +kernel
theorem d41_0 : decode (mB m41) 0 = .ok (.aload_n 0, 1) := by decide +kernel
theorem d41_1 : decode (mB m41) 1 = .ok (.iload_n 1, 1) := by decide +kernel
theorem d41_2 : decode (mB m41) 2 = .ok (.invokevirtual 98, 3) := by decide +kernel
theorem d41_5 : decode (mB m41) 5 = .ok (.istore_n 2, 1) := by decide +kernel
theorem d41_6 : decode (mB m41) 6 = .ok (.iload_n 2, 1) := by decide +kernel
theorem d41_7 : decode (mB m41) 7 = .ok (.ifCond .ge 5, 3) := by decide +kernel
theorem d41_10 : decode (mB m41) 10 = .ok (.iconst 2, 1) := by decide +kernel
theorem d41_11 : decode (mB m41) 11 = .ok (.ireturn, 1) := by decide +kernel
theorem d41_12 : decode (mB m41) 12 = .ok (.aload_n 0, 1) := by decide +kernel
theorem d41_13 : decode (mB m41) 13 = .ok (.iload_n 2, 1) := by decide +kernel
theorem d41_14 : decode (mB m41) 14 = .ok (.invokevirtual 101, 3) := by decide +kernel
theorem d41_17 : decode (mB m41) 17 = .ok (.ifCond .eq 5, 3) := by decide +kernel
theorem d41_20 : decode (mB m41) 20 = .ok (.iconst 1, 1) := by decide +kernel
theorem d41_21 : decode (mB m41) 21 = .ok (.ireturn, 1) := by decide +kernel
theorem d41_22 : decode (mB m41) 22 = .ok (.aload_n 0, 1) := by decide +kernel
theorem d41_23 : decode (mB m41) 23 = .ok (.iload_n 2, 1) := by decide +kernel
theorem d41_24 : decode (mB m41) 24 = .ok (.invokevirtual 105, 3) := by decide +kernel
theorem d41_27 : decode (mB m41) 27 = .ok (.ifCond .ne 5, 3) := by decide +kernel
theorem d41_30 : decode (mB m41) 30 = .ok (.iconst 2, 1) := by decide +kernel
theorem d41_31 : decode (mB m41) 31 = .ok (.ireturn, 1) := by decide +kernel
theorem d41_32 : decode (mB m41) 32 = .ok (.aload_n 0, 1) := by decide +kernel
theorem d41_33 : decode (mB m41) 33 = .ok (.iload_n 2, 1) := by decide +kernel
theorem d41_34 : decode (mB m41) 34 = .ok (.invokevirtual 108, 3) := by decide +kernel
theorem d41_37 : decode (mB m41) 37 = .ok (.aload_n 0, 1) := by decide +kernel
theorem d41_38 : decode (mB m41) 38 = .ok (.invokevirtual 112, 3) := by decide +kernel
theorem d41_41 : decode (mB m41) 41 = .ok (.iconst 0, 1) := by decide +kernel
theorem d41_42 : decode (mB m41) 42 = .ok (.ireturn, 1) := by decide +kernel
theorem d42_0 : decode (mB m42) 0 = .ok (.iload_n 1, 1) := by decide +kernel
theorem d42_1 : decode (mB m42) 1 = .ok (.ifCond .lt 11, 3) := by decide +kernel
theorem d42_4 : decode (mB m42) 4 = .ok (.iload_n 1, 1) := by decide +kernel
theorem d42_5 : decode (mB m42) 5 = .ok (.aload_n 0, 1) := by decide +kernel
theorem d42_6 : decode (mB m42) 6 = .ok (.getfield 130, 3) := by decide +kernel
theorem d42_9 : decode (mB m42) 9 = .ok (.if_icmp .lt 5, 3) := by decide +kernel
theorem d42_12 : decode (mB m42) 12 = .ok (.iconst (-1), 1) := by decide +kernel
theorem d42_13 : decode (mB m42) 13 = .ok (.ireturn, 1) := by decide +kernel
theorem d42_14 : decode (mB m42) 14 = .ok (.aload_n 0, 1) := by decide +kernel
theorem d42_15 : decode (mB m42) 15 = .ok (.getfield 29, 3) := by decide +kernel
theorem d42_18 : decode (mB m42) 18 = .ok (.aload_n 0, 1) := by decide +kernel
theorem d42_19 : decode (mB m42) 19 = .ok (.getfield 136, 3) := by decide +kernel
theorem d42_22 : decode (mB m42) 22 = .ok (.iload_n 1, 1) := by decide +kernel
theorem d42_23 : decode (mB m42) 23 = .ok (.iadd, 1) := by decide +kernel
theorem d42_24 : decode (mB m42) 24 = .ok (.bipush 31, 2) := by decide +kernel
theorem d42_26 : decode (mB m42) 26 = .ok (.iand, 1) := by decide +kernel
theorem d42_27 : decode (mB m42) 27 = .ok (.iaload, 1) := by decide +kernel
theorem d42_28 : decode (mB m42) 28 = .ok (.istore_n 2, 1) := by decide +kernel
theorem d42_29 : decode (mB m42) 29 = .ok (.aload_n 0, 1) := by decide +kernel
theorem d42_30 : decode (mB m42) 30 = .ok (.iload_n 2, 1) := by decide +kernel
theorem d42_31 : decode (mB m42) 31 = .ok (.invokevirtual 139, 3) := by decide +kernel
theorem d42_34 : decode (mB m42) 34 = .ok (.ifCond .ne 5, 3) := by decide +kernel
theorem d42_37 : decode (mB m42) 37 = .ok (.iconst (-1), 1) := by decide +kernel
theorem d42_38 : decode (mB m42) 38 = .ok (.ireturn, 1) := by decide +kernel
theorem d42_39 : decode (mB m42) 39 = .ok (.aload_n 0, 1) := by decide +kernel
theorem d42_40 : decode (mB m42) 40 = .ok (.iload_n 2, 1) := by decide +kernel
theorem d42_41 : decode (mB m42) 41 = .ok (.invokevirtual 142, 3) := by decide +kernel
theorem d42_44 : decode (mB m42) 44 = .ok (.ireturn, 1) := by decide +kernel
theorem d43_0 : decode (mB m43) 0 = .ok (.iload_n 0, 1) := by decide +kernel
theorem d43_1 : decode (mB m43) 1 = .ok (.bipush 7, 2) := by decide +kernel
theorem d43_3 : decode (mB m43) 3 = .ok (.iand, 1) := by decide +kernel
theorem d43_4 : decode (mB m43) 4 = .ok (.istore_n 1, 1) := by decide +kernel
theorem d43_5 : decode (mB m43) 5 = .ok (.iload_n 1, 1) := by decide +kernel
theorem d43_6 : decode (mB m43) 6 = .ok (.iconst 4, 1) := by decide +kernel
theorem d43_7 : decode (mB m43) 7 = .ok (.if_icmp .ne 5, 3) := by decide +kernel
theorem d43_10 : decode (mB m43) 10 = .ok (.iconst 3, 1) := by decide +kernel
theorem d43_11 : decode (mB m43) 11 = .ok (.ireturn, 1) := by decide +kernel
theorem d43_12 : decode (mB m43) 12 = .ok (.iconst 1, 1) := by decide +kernel
theorem d43_13 : decode (mB m43) 13 = .ok (.iload_n 1, 1) := by decide +kernel
theorem d43_14 : decode (mB m43) 14 = .ok (.iconst 3, 1) := by decide +kernel
theorem d43_15 : decode (mB m43) 15 = .ok (.iand, 1) := by decide +kernel
theorem d43_16 : decode (mB m43) 16 = .ok (.ishl, 1) := by decide +kernel
theorem d43_17 : decode (mB m43) 17 = .ok (.ireturn, 1) := by decide +kernel
theorem d44_0 : decode (mB m44) 0 = .ok (.iload_n 0, 1) := by decide +kernel
theorem d44_1 : decode (mB m44) 1 = .ok (.bipush 8, 2) := by decide +kernel
theorem d44_3 : decode (mB m44) 3 = .ok (.iand, 1) := by decide +kernel
theorem d44_4 : decode (mB m44) 4 = .ok (.ifCond .ne 12, 3) := by decide +kernel
theorem d44_7 : decode (mB m44) 7 = .ok (.iload_n 1, 1) := by decide +kernel
theorem d44_8 : decode (mB m44) 8 = .ok (.iload_n 0, 1) := by decide +kernel
theorem d44_9 : decode (mB m44) 9 = .ok (.iconst 4, 1) := by decide +kernel
theorem d44_10 : decode (mB m44) 10 = .ok (.iushr, 1) := by decide +kernel
theorem d44_11 : decode (mB m44) 11 = .ok (.bipush 7, 2) := by decide +kernel
theorem d44_13 : decode (mB m44) 13 = .ok (.iand, 1) := by decide +kernel
theorem d44_14 : decode (mB m44) 14 = .ok (.iadd, 1) := by decide +kernel
theorem d44_15 : decode (mB m44) 15 = .ok (.ireturn, 1) := by decide +kernel
theorem d44_16 : decode (mB m44) 16 = .ok (.iload_n 0, 1) := by decide +kernel
theorem d44_17 : decode (mB m44) 17 = .ok (.ldc 7, 2) := by decide +kernel
theorem d44_19 : decode (mB m44) 19 = .ok (.iand, 1) := by decide +kernel
theorem d44_20 : decode (mB m44) 20 = .ok (.sipush 136, 3) := by decide +kernel
theorem d44_23 : decode (mB m44) 23 = .ok (.irem, 1) := by decide +kernel
theorem d44_24 : decode (mB m44) 24 = .ok (.ireturn, 1) := by decide +kernel
theorem d45_0 : decode (mB m45) 0 = .ok (.iload_n 1, 1) := by decide +kernel
theorem d45_1 : decode (mB m45) 1 = .ok (.iconst 1, 1) := by decide +kernel
theorem d45_2 : decode (mB m45) 2 = .ok (.if_icmp .eq 19, 3) := by decide +kernel
theorem d45_5 : decode (mB m45) 5 = .ok (.iload_n 1, 1) := by decide +kernel
theorem d45_6 : decode (mB m45) 6 = .ok (.iconst 2, 1) := by decide +kernel
theorem d45_7 : decode (mB m45) 7 = .ok (.if_icmp .eq 14, 3) := by decide +kernel
theorem d45_10 : decode (mB m45) 10 = .ok (.iload_n 1, 1) := by decide +kernel
theorem d45_11 : decode (mB m45) 11 = .ok (.iconst 4, 1) := by decide +kernel
theorem d45_12 : decode (mB m45) 12 = .ok (.if_icmp .eq 9, 3) := by decide +kernel
theorem d45_15 : decode (mB m45) 15 = .ok (.iload_n 1, 1) := by decide +kernel
theorem d45_16 : decode (mB m45) 16 = .ok (.bipush 8, 2) := by decide +kernel
theorem d45_18 : decode (mB m45) 18 = .ok (.if_icmp .ne 7, 3) := by decide +kernel
theorem d45_21 : decode (mB m45) 21 = .ok (.iconst 1, 1) := by decide +kernel
theorem d45_22 : decode (mB m45) 22 = .ok (.goto 4, 3) := by decide +kernel
theorem d45_25 : decode (mB m45) 25 = .ok (.iconst 0, 1) := by decide +kernel
theorem d45_26 : decode (mB m45) 26 = .ok (.ireturn, 1) := by decide +kernel
theorem d46_0 : decode (mB m46) 0 = .ok (.iload_n 1, 1) := by decide +kernel
theorem d46_1 : decode (mB m46) 1 = .ok (.ifCond .ne 5, 3) := by decide +kernel
theorem d46_4 : decode (mB m46) 4 = .ok (.iconst 0, 1) := by decide +kernel
theorem d46_5 : decode (mB m46) 5 = .ok (.ireturn, 1) := by decide +kernel
theorem d46_6 : decode (mB m46) 6 = .ok (.iload_n 1, 1) := by decide +kernel
theorem d46_7 : decode (mB m46) 7 = .ok (.iconst 1, 1) := by decide +kernel
theorem d46_8 : decode (mB m46) 8 = .ok (.if_icmp .lt 20, 3) := by decide +kernel
theorem d46_11 : decode (mB m46) 11 = .ok (.iload_n 1, 1) := by decide +kernel
theorem d46_12 : decode (mB m46) 12 = .ok (.bipush 7, 2) := by decide +kernel
theorem d46_14 : decode (mB m46) 14 = .ok (.if_icmp .gt 14, 3) := by decide +kernel
theorem d46_17 : decode (mB m46) 17 = .ok (.iload_n 2, 1) := by decide +kernel
theorem d46_18 : decode (mB m46) 18 = .ok (.iload_n 1, 1) := by decide +kernel
theorem d46_19 : decode (mB m46) 19 = .ok (.if_icmp .ge 7, 3) := by decide +kernel
theorem d46_22 : decode (mB m46) 22 = .ok (.iconst 0, 1) := by decide +kernel
theorem d46_23 : decode (mB m46) 23 = .ok (.goto 4, 3) := by decide +kernel
theorem d46_26 : decode (mB m46) 26 = .ok (.iconst 2, 1) := by decide +kernel
theorem d46_27 : decode (mB m46) 27 = .ok (.ireturn, 1) := by decide +kernel
theorem d46_28 : decode (mB m46) 28 = .ok (.iload_n 1, 1) := by decide +kernel
theorem d46_29 : decode (mB m46) 29 = .ok (.sipush 250, 3) := by decide +kernel
theorem d46_32 : decode (mB m46) 32 = .ok (.if_icmp .ne 5, 3) := by decide +kernel
theorem d46_35 : decode (mB m46) 35 = .ok (.iconst 1, 1) := by decide +kernel
theorem d46_36 : decode (mB m46) 36 = .ok (.ireturn, 1) := by decide +kernel
theorem d46_37 : decode (mB m46) 37 = .ok (.iload_n 1, 1) := by decide +kernel
theorem d46_38 : decode (mB m46) 38 = .ok (.sipush 251, 3) := by decide +kernel
theorem d46_41 : decode (mB m46) 41 = .ok (.if_icmp .ne 5, 3) := by decide +kernel
theorem d46_44 : decode (mB m46) 44 = .ok (.iconst 2, 1) := by decide +kernel
theorem d46_45 : decode (mB m46) 45 = .ok (.ireturn, 1) := by decide +kernel
theorem d46_46 : decode (mB m46) 46 = .ok (.iload_n 1, 1) := by decide +kernel
theorem d46_47 : decode (mB m46) 47 = .ok (.sipush 253, 3) := by decide +kernel
theorem d46_50 : decode (mB m46) 50 = .ok (.if_icmp .ne 5, 3) := by decide +kernel
theorem d46_53 : decode (mB m46) 53 = .ok (.iconst 3, 1) := by decide +kernel
theorem d46_54 : decode (mB m46) 54 = .ok (.ireturn, 1) := by decide +kernel
theorem d46_55 : decode (mB m46) 55 = .ok (.iconst 4, 1) := by decide +kernel
theorem d46_56 : decode (mB m46) 56 = .ok (.ireturn, 1) := by decide +kernel
theorem d47_0 : decode (mB m47) 0 = .ok (.iload_n 1, 1) := by decide +kernel
theorem d47_1 : decode (mB m47) 1 = .ok (.ifCond .lt 11, 3) := by decide +kernel
theorem d47_4 : decode (mB m47) 4 = .ok (.iload_n 1, 1) := by decide +kernel
theorem d47_5 : decode (mB m47) 5 = .ok (.aload_n 0, 1) := by decide +kernel
theorem d47_6 : decode (mB m47) 6 = .ok (.getfield 52, 3) := by decide +kernel
theorem d47_9 : decode (mB m47) 9 = .ok (.if_icmp .lt 5, 3) := by decide +kernel
theorem d47_12 : decode (mB m47) 12 = .ok (.iconst 5, 1) := by decide +kernel
theorem d47_13 : decode (mB m47) 13 = .ok (.ireturn, 1) := by decide +kernel
theorem d47_14 : decode (mB m47) 14 = .ok (.iload_n 1, 1) := by decide +kernel
theorem d47_15 : decode (mB m47) 15 = .ok (.iconst 3, 1) := by decide +kernel
theorem d47_16 : decode (mB m47) 16 = .ok (.ishr, 1) := by decide +kernel
theorem d47_17 : decode (mB m47) 17 = .ok (.istore_n 2, 1) := by decide +kernel
theorem d47_18 : decode (mB m47) 18 = .ok (.iload_n 1, 1) := by decide +kernel
theorem d47_19 : decode (mB m47) 19 = .ok (.bipush 7, 2) := by decide +kernel
theorem d47_21 : decode (mB m47) 21 = .ok (.iand, 1) := by decide +kernel
theorem d47_22 : decode (mB m47) 22 = .ok (.istore_n 3, 1) := by decide +kernel
theorem d47_23 : decode (mB m47) 23 = .ok (.aload_n 0, 1) := by decide +kernel
theorem d47_24 : decode (mB m47) 24 = .ok (.getfield 13, 3) := by decide +kernel
theorem d47_27 : decode (mB m47) 27 = .ok (.iload_n 2, 1) := by decide +kernel
theorem d47_28 : decode (mB m47) 28 = .ok (.iaload, 1) := by decide +kernel
theorem d47_29 : decode (mB m47) 29 = .ok (.istore 4, 2) := by decide +kernel
theorem d47_31 : decode (mB m47) 31 = .ok (.aload_n 0, 1) := by decide +kernel
theorem d47_32 : decode (mB m47) 32 = .ok (.iload 4, 2) := by decide +kernel
theorem d47_34 : decode (mB m47) 34 = .ok (.iload_n 3, 1) := by decide +kernel
theorem d47_35 : decode (mB m47) 35 = .ok (.invokevirtual 206, 3) := by decide +kernel
theorem d47_38 : decode (mB m47) 38 = .ok (.ireturn, 1) := by decide +kernel
theorem d48_0 : decode (mB m48) 0 = .ok (.aload_n 0, 1) := by decide +kernel
theorem d48_1 : decode (mB m48) 1 = .ok (.dup, 1) := by decide +kernel
theorem d48_2 : decode (mB m48) 2 = .ok (.getfield 77, 3) := by decide +kernel
theorem d48_5 : decode (mB m48) 5 = .ok (.iconst 1, 1) := by decide +kernel
theorem d48_6 : decode (mB m48) 6 = .ok (.iadd, 1) := by decide +kernel
theorem d48_7 : decode (mB m48) 7 = .ok (.putfield 77, 3) := by decide +kernel
theorem d48_10 : decode (mB m48) 10 = .ok (.aload_n 0, 1) := by decide +kernel
theorem d48_11 : decode (mB m48) 11 = .ok (.iload_n 1, 1) := by decide +kernel
theorem d48_12 : decode (mB m48) 12 = .ok (.putfield 74, 3) := by decide +kernel
theorem d48_15 : decode (mB m48) 15 = .ok (.return_, 1) := by decide +kernel
theorem d49_0 : decode (mB m49) 0 = .ok (.iconst 0, 1) := by decide +kernel
theorem d49_1 : decode (mB m49) 1 = .ok (.istore_n 3, 1) := by decide +kernel
theorem d49_2 : decode (mB m49) 2 = .ok (.iload_n 3, 1) := by decide +kernel
theorem d49_3 : decode (mB m49) 3 = .ok (.iload_n 2, 1) := by decide +kernel
theorem d49_4 : decode (mB m49) 4 = .ok (.if_icmp .ge 42, 3) := by decide +kernel
theorem d49_7 : decode (mB m49) 7 = .ok (.iload_n 3, 1) := by decide +kernel
theorem d49_8 : decode (mB m49) 8 = .ok (.bipush 8, 2) := by decide +kernel
theorem d49_10 : decode (mB m49) 10 = .ok (.if_icmp .ge 36, 3) := by decide +kernel
theorem d49_13 : decode (mB m49) 13 = .ok (.iload_n 1, 1) := by decide +kernel
theorem d49_14 : decode (mB m49) 14 = .ok (.iload_n 3, 1) := by decide +kernel
theorem d49_15 : decode (mB m49) 15 = .ok (.iadd, 1) := by decide +kernel
theorem d49_16 : decode (mB m49) 16 = .ok (.istore 4, 2) := by decide +kernel
theorem d49_18 : decode (mB m49) 18 = .ok (.aload_n 0, 1) := by decide +kernel
theorem d49_19 : decode (mB m49) 19 = .ok (.iload 4, 2) := by decide +kernel
theorem d49_21 : decode (mB m49) 21 = .ok (.invokevirtual 200, 3) := by decide +kernel
theorem d49_24 : decode (mB m49) 24 = .ok (.istore 5, 2) := by decide +kernel
theorem d49_26 : decode (mB m49) 26 = .ok (.iload 5, 2) := by decide +kernel
theorem d49_28 : decode (mB m49) 28 = .ok (.ifCond .eq 12, 3) := by decide +kernel
theorem d49_31 : decode (mB m49) 31 = .ok (.aload_n 0, 1) := by decide +kernel
theorem d49_32 : decode (mB m49) 32 = .ok (.iload 4, 2) := by decide +kernel
theorem d49_34 : decode (mB m49) 34 = .ok (.invokevirtual 203, 3) := by decide +kernel
theorem d49_37 : decode (mB m49) 37 = .ok (.iload 5, 2) := by decide +kernel
theorem d49_39 : decode (mB m49) 39 = .ok (.ireturn, 1) := by decide +kernel
theorem d49_40 : decode (mB m49) 40 = .ok (.iinc 3 1, 3) := by decide +kernel
theorem d49_43 : decode (mB m49) 43 = .ok (.goto (-41), 3) := by decide +kernel
theorem d49_46 : decode (mB m49) 46 = .ok (.iconst 0, 1) := by decide +kernel
theorem d49_47 : decode (mB m49) 47 = .ok (.ireturn, 1) := by decide +kernel
theorem d50_0 : decode (mB m50) 0 = .ok (.lconst 0, 1) := by decide +kernel
theorem d50_1 : decode (mB m50) 1 = .ok (.lstore_n 3, 1) := by decide +kernel
theorem d50_2 : decode (mB m50) 2 = .ok (.iconst 0, 1) := by decide +kernel
theorem d50_3 : decode (mB m50) 3 = .ok (.istore 5, 2) := by decide +kernel
theorem d50_5 : decode (mB m50) 5 = .ok (.iload 5, 2) := by decide +kernel
theorem d50_7 : decode (mB m50) 7 = .ok (.iload_n 2, 1) := by decide +kernel
theorem d50_8 : decode (mB m50) 8 = .ok (.if_icmp .ge 61, 3) := by decide +kernel
theorem d50_11 : decode (mB m50) 11 = .ok (.iload 5, 2) := by decide +kernel
theorem d50_13 : decode (mB m50) 13 = .ok (.bipush 8, 2) := by decide +kernel
theorem d50_15 : decode (mB m50) 15 = .ok (.if_icmp .ge 54, 3) := by decide +kernel
theorem d50_18 : decode (mB m50) 18 = .ok (.iload_n 1, 1) := by decide +kernel
theorem d50_19 : decode (mB m50) 19 = .ok (.iload 5, 2) := by decide +kernel
theorem d50_21 : decode (mB m50) 21 = .ok (.iadd, 1) := by decide +kernel
theorem d50_22 : decode (mB m50) 22 = .ok (.istore 6, 2) := by decide +kernel
theorem d50_24 : decode (mB m50) 24 = .ok (.iload 6, 2) := by decide +kernel
theorem d50_26 : decode (mB m50) 26 = .ok (.ifCond .lt 37, 3) := by decide +kernel
theorem d50_29 : decode (mB m50) 29 = .ok (.iload 6, 2) := by decide +kernel
theorem d50_31 : decode (mB m50) 31 = .ok (.aload_n 0, 1) := by decide +kernel
theorem d50_32 : decode (mB m50) 32 = .ok (.getfield 52, 3) := by decide +kernel
theorem d50_35 : decode (mB m50) 35 = .ok (.if_icmp .ge 28, 3) := by decide +kernel
theorem d50_38 : decode (mB m50) 38 = .ok (.aload_n 0, 1) := by decide +kernel
theorem d50_39 : decode (mB m50) 39 = .ok (.getfield 7, 3) := by decide +kernel
theorem d50_42 : decode (mB m50) 42 = .ok (.iload 6, 2) := by decide +kernel
theorem d50_44 : decode (mB m50) 44 = .ok (.baload, 1) := by decide +kernel
theorem d50_45 : decode (mB m50) 45 = .ok (.sipush 255, 3) := by decide +kernel
theorem d50_48 : decode (mB m50) 48 = .ok (.iand, 1) := by decide +kernel
theorem d50_49 : decode (mB m50) 49 = .ok (.i2l, 1) := by decide +kernel
theorem d50_50 : decode (mB m50) 50 = .ok (.lstore 7, 2) := by decide +kernel
theorem d50_52 : decode (mB m50) 52 = .ok (.lload_n 3, 1) := by decide +kernel
theorem d50_53 : decode (mB m50) 53 = .ok (.lload 7, 2) := by decide +kernel
theorem d50_55 : decode (mB m50) 55 = .ok (.bipush 8, 2) := by decide +kernel
theorem d50_57 : decode (mB m50) 57 = .ok (.iload 5, 2) := by decide +kernel
theorem d50_59 : decode (mB m50) 59 = .ok (.imul, 1) := by decide +kernel
theorem d50_60 : decode (mB m50) 60 = .ok (.lshl, 1) := by decide +kernel
theorem d50_61 : decode (mB m50) 61 = .ok (.lor, 1) := by decide +kernel
theorem d50_62 : decode (mB m50) 62 = .ok (.lstore_n 3, 1) := by decide +kernel
theorem d50_63 : decode (mB m50) 63 = .ok (.iinc 5 1, 3) := by decide +kernel
theorem d50_66 : decode (mB m50) 66 = .ok (.goto (-61), 3) := by decide +kernel
theorem d50_69 : decode (mB m50) 69 = .ok (.lload_n 3, 1) := by decide +kernel
theorem d50_70 : decode (mB m50) 70 = .ok (.lreturn, 1) := by decide +kernel
theorem d51_0 : decode (mB m51) 0 = .ok (.aload_n 0, 1) := by decide +kernel
theorem d51_1 : decode (mB m51) 1 = .ok (.iload_n 2, 1) := by decide +kernel
theorem d51_2 : decode (mB m51) 2 = .ok (.invokevirtual 115, 3) := by decide +kernel
theorem d51_5 : decode (mB m51) 5 = .ok (.ifCond .ne 6, 3) := by decide +kernel
theorem d51_8 : decode (mB m51) 8 = .ok (.bipush 6, 2) := by decide +kernel
theorem d51_10 : decode (mB m51) 10 = .ok (.ireturn, 1) := by decide +kernel
theorem d51_11 : decode (mB m51) 11 = .ok (.aload_n 0, 1) := by decide +kernel
theorem d51_12 : decode (mB m51) 12 = .ok (.iload_n 1, 1) := by decide +kernel
theorem d51_13 : decode (mB m51) 13 = .ok (.iload_n 2, 1) := by decide +kernel
theorem d51_14 : decode (mB m51) 14 = .ok (.invokevirtual 118, 3) := by decide +kernel
theorem d51_17 : decode (mB m51) 17 = .ok (.istore_n 3, 1) := by decide +kernel
theorem d51_18 : decode (mB m51) 18 = .ok (.iload_n 3, 1) := by decide +kernel
theorem d51_19 : decode (mB m51) 19 = .ok (.ifCond .eq 5, 3) := by decide +kernel
theorem d51_22 : decode (mB m51) 22 = .ok (.iload_n 3, 1) := by decide +kernel
theorem d51_23 : decode (mB m51) 23 = .ok (.ireturn, 1) := by decide +kernel
theorem d51_24 : decode (mB m51) 24 = .ok (.aload_n 0, 1) := by decide +kernel
theorem d51_25 : decode (mB m51) 25 = .ok (.aload_n 0, 1) := by decide +kernel
theorem d51_26 : decode (mB m51) 26 = .ok (.iload_n 1, 1) := by decide +kernel
theorem d51_27 : decode (mB m51) 27 = .ok (.iload_n 2, 1) := by decide +kernel
theorem d51_28 : decode (mB m51) 28 = .ok (.invokevirtual 122, 3) := by decide +kernel
theorem d51_31 : decode (mB m51) 31 = .ok (.putfield 70, 3) := by decide +kernel
theorem d51_34 : decode (mB m51) 34 = .ok (.iconst 0, 1) := by decide +kernel
theorem d51_35 : decode (mB m51) 35 = .ok (.ireturn, 1) := by decide +kernel
theorem d52_0 : decode (mB m52) 0 = .ok (.iconst 0, 1) := by decide +kernel
theorem d52_1 : decode (mB m52) 1 = .ok (.istore 5, 2) := by decide +kernel
theorem d52_3 : decode (mB m52) 3 = .ok (.iload 5, 2) := by decide +kernel
theorem d52_5 : decode (mB m52) 5 = .ok (.iload_n 2, 1) := by decide +kernel
theorem d52_6 : decode (mB m52) 6 = .ok (.if_icmp .ge 56, 3) := by decide +kernel
theorem d52_9 : decode (mB m52) 9 = .ok (.iload 5, 2) := by decide +kernel
theorem d52_11 : decode (mB m52) 11 = .ok (.bipush 8, 2) := by decide +kernel
theorem d52_13 : decode (mB m52) 13 = .ok (.if_icmp .ge 49, 3) := by decide +kernel
theorem d52_16 : decode (mB m52) 16 = .ok (.iload_n 1, 1) := by decide +kernel
theorem d52_17 : decode (mB m52) 17 = .ok (.iload 5, 2) := by decide +kernel
theorem d52_19 : decode (mB m52) 19 = .ok (.iadd, 1) := by decide +kernel
theorem d52_20 : decode (mB m52) 20 = .ok (.istore 6, 2) := by decide +kernel
theorem d52_22 : decode (mB m52) 22 = .ok (.iload 6, 2) := by decide +kernel
theorem d52_24 : decode (mB m52) 24 = .ok (.ifCond .lt 32, 3) := by decide +kernel
theorem d52_27 : decode (mB m52) 27 = .ok (.iload 6, 2) := by decide +kernel
theorem d52_29 : decode (mB m52) 29 = .ok (.aload_n 0, 1) := by decide +kernel
theorem d52_30 : decode (mB m52) 30 = .ok (.getfield 52, 3) := by decide +kernel
theorem d52_33 : decode (mB m52) 33 = .ok (.if_icmp .ge 23, 3) := by decide +kernel
theorem d52_36 : decode (mB m52) 36 = .ok (.aload_n 0, 1) := by decide +kernel
theorem d52_37 : decode (mB m52) 37 = .ok (.getfield 7, 3) := by decide +kernel
theorem d52_40 : decode (mB m52) 40 = .ok (.iload 6, 2) := by decide +kernel
theorem d52_42 : decode (mB m52) 42 = .ok (.lload_n 3, 1) := by decide +kernel
theorem d52_43 : decode (mB m52) 43 = .ok (.bipush 8, 2) := by decide +kernel
theorem d52_45 : decode (mB m52) 45 = .ok (.iload 5, 2) := by decide +kernel
theorem d52_47 : decode (mB m52) 47 = .ok (.imul, 1) := by decide +kernel
theorem d52_48 : decode (mB m52) 48 = .ok (.lushr, 1) := by decide +kernel
theorem d52_49 : decode (mB m52) 49 = .ok (.ldc2_w 209, 3) := by decide +kernel
theorem d52_52 : decode (mB m52) 52 = .ok (.land, 1) := by decide +kernel
theorem d52_53 : decode (mB m52) 53 = .ok (.l2i, 1) := by decide +kernel
theorem d52_54 : decode (mB m52) 54 = .ok (.i2b, 1) := by decide +kernel
theorem d52_55 : decode (mB m52) 55 = .ok (.bastore, 1) := by decide +kernel
theorem d52_56 : decode (mB m52) 56 = .ok (.iinc 5 1, 3) := by decide +kernel
theorem d52_59 : decode (mB m52) 59 = .ok (.goto (-56), 3) := by decide +kernel
theorem d52_62 : decode (mB m52) 62 = .ok (.return_, 1) := by decide +kernel
theorem d53_0 : decode (mB m53) 0 = .ok (.aload_n 0, 1) := by decide +kernel
theorem d53_1 : decode (mB m53) 1 = .ok (.iload_n 2, 1) := by decide +kernel
theorem d53_2 : decode (mB m53) 2 = .ok (.invokevirtual 115, 3) := by decide +kernel
theorem d53_5 : decode (mB m53) 5 = .ok (.ifCond .ne 6, 3) := by decide +kernel
theorem d53_8 : decode (mB m53) 8 = .ok (.bipush 6, 2) := by decide +kernel
theorem d53_10 : decode (mB m53) 10 = .ok (.ireturn, 1) := by decide +kernel
theorem d53_11 : decode (mB m53) 11 = .ok (.aload_n 0, 1) := by decide +kernel
theorem d53_12 : decode (mB m53) 12 = .ok (.iload_n 1, 1) := by decide +kernel
theorem d53_13 : decode (mB m53) 13 = .ok (.iload_n 2, 1) := by decide +kernel
theorem d53_14 : decode (mB m53) 14 = .ok (.invokevirtual 118, 3) := by decide +kernel
theorem d53_17 : decode (mB m53) 17 = .ok (.istore 5, 2) := by decide +kernel
theorem d53_19 : decode (mB m53) 19 = .ok (.iload 5, 2) := by decide +kernel
theorem d53_21 : decode (mB m53) 21 = .ok (.ifCond .eq 6, 3) := by decide +kernel
theorem d53_24 : decode (mB m53) 24 = .ok (.iload 5, 2) := by decide +kernel
theorem d53_26 : decode (mB m53) 26 = .ok (.ireturn, 1) := by decide +kernel
theorem d53_27 : decode (mB m53) 27 = .ok (.aload_n 0, 1) := by decide +kernel
theorem d53_28 : decode (mB m53) 28 = .ok (.iload_n 1, 1) := by decide +kernel
theorem d53_29 : decode (mB m53) 29 = .ok (.iload_n 2, 1) := by decide +kernel
theorem d53_30 : decode (mB m53) 30 = .ok (.lload_n 3, 1) := by decide +kernel
theorem d53_31 : decode (mB m53) 31 = .ok (.invokevirtual 126, 3) := by decide +kernel
theorem d53_34 : decode (mB m53) 34 = .ok (.iconst 0, 1) := by decide +kernel
theorem d53_35 : decode (mB m53) 35 = .ok (.ireturn, 1) := by decide +kernel
theorem d54_0 : decode (mB m54) 0 = .ok (.aload_n 0, 1) := by decide +kernel
theorem d54_1 : decode (mB m54) 1 = .ok (.getfield 70, 3) := by decide +kernel
theorem d54_4 : decode (mB m54) 4 = .ok (.lreturn, 1) := by decide +kernel
theorem d55_0 : decode (mB m55) 0 = .ok (.aload_n 0, 1) := by decide +kernel
theorem d55_1 : decode (mB m55) 1 = .ok (.getfield 74, 3) := by decide +kernel
theorem d55_4 : decode (mB m55) 4 = .ok (.ireturn, 1) := by decide +kernel
theorem d56_0 : decode (mB m56) 0 = .ok (.aload_n 0, 1) := by decide +kernel
theorem d56_1 : decode (mB m56) 1 = .ok (.getfield 67, 3) := by decide +kernel
theorem d56_4 : decode (mB m56) 4 = .ok (.ireturn, 1) := by decide +kernel
theorem d57_0 : decode (mB m57) 0 = .ok (.aload_n 0, 1) := by decide +kernel
theorem d57_1 : decode (mB m57) 1 = .ok (.getfield 77, 3) := by decide +kernel
theorem d57_4 : decode (mB m57) 4 = .ok (.ireturn, 1) := by decide +kernel
theorem d58_0 : decode (mB m58) 0 = .ok (.aload_n 0, 1) := by decide +kernel
theorem d58_1 : decode (mB m58) 1 = .ok (.getfield 145, 3) := by decide +kernel
theorem d58_4 : decode (mB m58) 4 = .ok (.ireturn, 1) := by decide +kernel
theorem d59_0 : decode (mB m59) 0 = .ok (.new 8, 3) := by decide +kernel
theorem d59_3 : decode (mB m59) 3 = .ok (.dup, 1) := by decide +kernel
theorem d59_4 : decode (mB m59) 4 = .ok (.bipush 16, 2) := by decide +kernel
theorem d59_6 : decode (mB m59) 6 = .ok (.iconst 1, 1) := by decide +kernel
theorem d59_7 : decode (mB m59) 7 = .ok (.bipush 96, 2) := by decide +kernel
theorem d59_9 : decode (mB m59) 9 = .ok (.invokespecial 10, 3) := by decide +kernel
theorem d59_12 : decode (mB m59) 12 = .ok (.astore_n 1, 1) := by decide +kernel
theorem d59_13 : decode (mB m59) 13 = .ok (.iconst 0, 1) := by decide +kernel
theorem d59_14 : decode (mB m59) 14 = .ok (.istore_n 2, 1) := by decide +kernel
theorem d59_15 : decode (mB m59) 15 = .ok (.iconst 0, 1) := by decide +kernel
theorem d59_16 : decode (mB m59) 16 = .ok (.istore_n 3, 1) := by decide +kernel
theorem d59_17 : decode (mB m59) 17 = .ok (.iconst 0, 1) := by decide +kernel
theorem d59_18 : decode (mB m59) 18 = .ok (.istore 4, 2) := by decide +kernel
theorem d59_20 : decode (mB m59) 20 = .ok (.iconst 0, 1) := by decide +kernel
theorem d59_21 : decode (mB m59) 21 = .ok (.istore 5, 2) := by decide +kernel
theorem d59_23 : decode (mB m59) 23 = .ok (.iconst 0, 1) := by decide +kernel
theorem d59_24 : decode (mB m59) 24 = .ok (.istore 6, 2) := by decide +kernel
theorem d59_26 : decode (mB m59) 26 = .ok (.iconst 0, 1) := by decide +kernel
theorem d59_27 : decode (mB m59) 27 = .ok (.istore 7, 2) := by decide +kernel
theorem d59_29 : decode (mB m59) 29 = .ok (.lconst 0, 1) := by decide +kernel
theorem d59_30 : decode (mB m59) 30 = .ok (.lstore 8, 2) := by decide +kernel
theorem d59_32 : decode (mB m59) 32 = .ok (.iconst 0, 1) := by decide +kernel
theorem d59_33 : decode (mB m59) 33 = .ok (.istore 10, 2) := by decide +kernel
theorem d59_35 : decode (mB m59) 35 = .ok (.iload 10, 2) := by decide +kernel
theorem d59_37 : decode (mB m59) 37 = .ok (.iconst 3, 1) := by decide +kernel
theorem d59_38 : decode (mB m59) 38 = .ok (.iadd, 1) := by decide +kernel
theorem d59_39 : decode (mB m59) 39 = .ok (.aload_n 0, 1) := by decide +kernel
theorem d59_40 : decode (mB m59) 40 = .ok (.arraylength, 1) := by decide +kernel
theorem d59_41 : decode (mB m59) 41 = .ok (.if_icmp .ge 727, 3) := by decide +kernel
theorem d59_44 : decode (mB m59) 44 = .ok (.aload_n 0, 1) := by decide +kernel
theorem d59_45 : decode (mB m59) 45 = .ok (.iload 10, 2) := by decide +kernel
theorem d59_47 : decode (mB m59) 47 = .ok (.iaload, 1) := by decide +kernel
theorem d59_48 : decode (mB m59) 48 = .ok (.iconst 3, 1) := by decide +kernel
theorem d59_49 : decode (mB m59) 49 = .ok (.iand, 1) := by decide +kernel
theorem d59_50 : decode (mB m59) 50 = .ok (.istore 11, 2) := by decide +kernel
theorem d59_52 : decode (mB m59) 52 = .ok (.aload_n 0, 1) := by decide +kernel
theorem d59_53 : decode (mB m59) 53 = .ok (.iload 10, 2) := by decide +kernel
theorem d59_55 : decode (mB m59) 55 = .ok (.iconst 1, 1) := by decide +kernel
theorem d59_56 : decode (mB m59) 56 = .ok (.iadd, 1) := by decide +kernel
theorem d59_57 : decode (mB m59) 57 = .ok (.iaload, 1) := by decide +kernel
theorem d59_58 : decode (mB m59) 58 = .ok (.istore 12, 2) := by decide +kernel
theorem d59_60 : decode (mB m59) 60 = .ok (.aload_n 0, 1) := by decide +kernel
theorem d59_61 : decode (mB m59) 61 = .ok (.iload 10, 2) := by decide +kernel
theorem d59_63 : decode (mB m59) 63 = .ok (.iconst 2, 1) := by decide +kernel
theorem d59_64 : decode (mB m59) 64 = .ok (.iadd, 1) := by decide +kernel
theorem d59_65 : decode (mB m59) 65 = .ok (.iaload, 1) := by decide +kernel
theorem d59_66 : decode (mB m59) 66 = .ok (.istore 13, 2) := by decide +kernel
theorem d59_68 : decode (mB m59) 68 = .ok (.aload_n 0, 1) := by decide +kernel
theorem d59_69 : decode (mB m59) 69 = .ok (.iload 10, 2) := by decide +kernel
theorem d59_71 : decode (mB m59) 71 = .ok (.iconst 3, 1) := by decide +kernel
theorem d59_72 : decode (mB m59) 72 = .ok (.iadd, 1) := by decide +kernel
theorem d59_73 : decode (mB m59) 73 = .ok (.iaload, 1) := by decide +kernel
theorem d59_74 : decode (mB m59) 74 = .ok (.istore 14, 2) := by decide +kernel
theorem d59_76 : decode (mB m59) 76 = .ok (.iload 11, 2) := by decide +kernel
theorem d59_78 : decode (mB m59) 78 = .ok (.ifCond .ne 198, 3) := by decide +kernel
theorem d59_81 : decode (mB m59) 81 = .ok (.iload 12, 2) := by decide +kernel
theorem d59_83 : decode (mB m59) 83 = .ok (.bipush 127, 2) := by decide +kernel
theorem d59_85 : decode (mB m59) 85 = .ok (.iand, 1) := by decide +kernel
theorem d59_86 : decode (mB m59) 86 = .ok (.bipush 67, 2) := by decide +kernel
theorem d59_88 : decode (mB m59) 88 = .ok (.irem, 1) := by decide +kernel
theorem d59_89 : decode (mB m59) 89 = .ok (.istore 15, 2) := by decide +kernel
theorem d59_91 : decode (mB m59) 91 = .ok (.aload_n 1, 1) := by decide +kernel
theorem d59_92 : decode (mB m59) 92 = .ok (.iload 15, 2) := by decide +kernel
theorem d59_94 : decode (mB m59) 94 = .ok (.invokevirtual 13, 3) := by decide +kernel
theorem d59_97 : decode (mB m59) 97 = .ok (.istore 16, 2) := by decide +kernel
theorem d59_99 : decode (mB m59) 99 = .ok (.iload 15, 2) := by decide +kernel
theorem d59_101 : decode (mB m59) 101 = .ok (.iconst 1, 1) := by decide +kernel
theorem d59_102 : decode (mB m59) 102 = .ok (.if_icmp .lt 10, 3) := by decide +kernel
theorem d59_105 : decode (mB m59) 105 = .ok (.iload 15, 2) := by decide +kernel
theorem d59_107 : decode (mB m59) 107 = .ok (.bipush 64, 2) := by decide +kernel
theorem d59_109 : decode (mB m59) 109 = .ok (.if_icmp .le 11, 3) := by decide +kernel
theorem d59_112 : decode (mB m59) 112 = .ok (.iload 16, 2) := by decide +kernel
theorem d59_114 : decode (mB m59) 114 = .ok (.iconst (-1), 1) := by decide +kernel
theorem d59_115 : decode (mB m59) 115 = .ok (.if_icmp .eq 158, 3) := by decide +kernel
theorem d59_118 : decode (mB m59) 118 = .ok (.iconst 0, 1) := by decide +kernel
theorem d59_119 : decode (mB m59) 119 = .ok (.ireturn, 1) := by decide +kernel
theorem d59_120 : decode (mB m59) 120 = .ok (.iload 16, 2) := by decide +kernel
theorem d59_122 : decode (mB m59) 122 = .ok (.bipush (-2), 2) := by decide +kernel
theorem d59_124 : decode (mB m59) 124 = .ok (.if_icmp .ne 38, 3) := by decide +kernel
theorem d59_127 : decode (mB m59) 127 = .ok (.aload_n 1, 1) := by decide +kernel
theorem d59_128 : decode (mB m59) 128 = .ok (.invokevirtual 17, 3) := by decide +kernel
theorem d59_131 : decode (mB m59) 131 = .ok (.ifCond .ne 10, 3) := by decide +kernel
theorem d59_134 : decode (mB m59) 134 = .ok (.aload_n 1, 1) := by decide +kernel
theorem d59_135 : decode (mB m59) 135 = .ok (.invokevirtual 21, 3) := by decide +kernel
theorem d59_138 : decode (mB m59) 138 = .ok (.ifCond .eq 5, 3) := by decide +kernel
theorem d59_141 : decode (mB m59) 141 = .ok (.iconst 0, 1) := by decide +kernel
theorem d59_142 : decode (mB m59) 142 = .ok (.ireturn, 1) := by decide +kernel
theorem d59_143 : decode (mB m59) 143 = .ok (.aload_n 1, 1) := by decide +kernel
theorem d59_144 : decode (mB m59) 144 = .ok (.invokevirtual 24, 3) := by decide +kernel
theorem d59_147 : decode (mB m59) 147 = .ok (.iconst 2, 1) := by decide +kernel
theorem d59_148 : decode (mB m59) 148 = .ok (.iload 15, 2) := by decide +kernel
theorem d59_150 : decode (mB m59) 150 = .ok (.bipush 7, 2) := by decide +kernel
theorem d59_152 : decode (mB m59) 152 = .ok (.iadd, 1) := by decide +kernel
theorem d59_153 : decode (mB m59) 153 = .ok (.bipush 8, 2) := by decide +kernel
theorem d59_155 : decode (mB m59) 155 = .ok (.idiv, 1) := by decide +kernel
theorem d59_156 : decode (mB m59) 156 = .ok (.iadd, 1) := by decide +kernel
theorem d59_157 : decode (mB m59) 157 = .ok (.if_icmp .lt 116, 3) := by decide +kernel
theorem d59_160 : decode (mB m59) 160 = .ok (.iconst 0, 1) := by decide +kernel
theorem d59_161 : decode (mB m59) 161 = .ok (.ireturn, 1) := by decide +kernel
theorem d59_162 : decode (mB m59) 162 = .ok (.iload 16, 2) := by decide +kernel
theorem d59_164 : decode (mB m59) 164 = .ok (.bipush 8, 2) := by decide +kernel
theorem d59_166 : decode (mB m59) 166 = .ok (.if_icmp .lt 22, 3) := by decide +kernel
theorem d59_169 : decode (mB m59) 169 = .ok (.iload 16, 2) := by decide +kernel
theorem d59_171 : decode (mB m59) 171 = .ok (.bipush 8, 2) := by decide +kernel
theorem d59_173 : decode (mB m59) 173 = .ok (.irem, 1) := by decide +kernel
theorem d59_174 : decode (mB m59) 174 = .ok (.ifCond .ne 14, 3) := by decide +kernel
theorem d59_177 : decode (mB m59) 177 = .ok (.aload_n 1, 1) := by decide +kernel
theorem d59_178 : decode (mB m59) 178 = .ok (.iload 16, 2) := by decide +kernel
theorem d59_180 : decode (mB m59) 180 = .ok (.invokevirtual 27, 3) := by decide +kernel
theorem d59_183 : decode (mB m59) 183 = .ok (.iload 15, 2) := by decide +kernel
theorem d59_185 : decode (mB m59) 185 = .ok (.if_icmp .eq 5, 3) := by decide +kernel
theorem d59_188 : decode (mB m59) 188 = .ok (.iconst 0, 1) := by decide +kernel
theorem d59_189 : decode (mB m59) 189 = .ok (.ireturn, 1) := by decide +kernel
theorem d59_190 : decode (mB m59) 190 = .ok (.iload 16, 2) := by decide +kernel
theorem d59_192 : decode (mB m59) 192 = .ok (.bipush 8, 2) := by decide +kernel
theorem d59_194 : decode (mB m59) 194 = .ok (.idiv, 1) := by decide +kernel
theorem d59_195 : decode (mB m59) 195 = .ok (.iload 15, 2) := by decide +kernel
theorem d59_197 : decode (mB m59) 197 = .ok (.bipush 7, 2) := by decide +kernel
theorem d59_199 : decode (mB m59) 199 = .ok (.iadd, 1) := by decide +kernel
theorem d59_200 : decode (mB m59) 200 = .ok (.bipush 8, 2) := by decide +kernel
theorem d59_202 : decode (mB m59) 202 = .ok (.idiv, 1) := by decide +kernel
theorem d59_203 : decode (mB m59) 203 = .ok (.iadd, 1) := by decide +kernel
theorem d59_204 : decode (mB m59) 204 = .ok (.iconst 1, 1) := by decide +kernel
theorem d59_205 : decode (mB m59) 205 = .ok (.isub, 1) := by decide +kernel
theorem d59_206 : decode (mB m59) 206 = .ok (.istore 17, 2) := by decide +kernel
theorem d59_208 : decode (mB m59) 208 = .ok (.aload_n 1, 1) := by decide +kernel
theorem d59_209 : decode (mB m59) 209 = .ok (.iload 16, 2) := by decide +kernel
theorem d59_211 : decode (mB m59) 211 = .ok (.bipush 8, 2) := by decide +kernel
theorem d59_213 : decode (mB m59) 213 = .ok (.idiv, 1) := by decide +kernel
theorem d59_214 : decode (mB m59) 214 = .ok (.iconst 1, 1) := by decide +kernel
theorem d59_215 : decode (mB m59) 215 = .ok (.isub, 1) := by decide +kernel
theorem d59_216 : decode (mB m59) 216 = .ok (.invokevirtual 30, 3) := by decide +kernel
theorem d59_219 : decode (mB m59) 219 = .ok (.sipush 250, 3) := by decide +kernel
theorem d59_222 : decode (mB m59) 222 = .ok (.if_icmp .ne 17, 3) := by decide +kernel
theorem d59_225 : decode (mB m59) 225 = .ok (.aload_n 1, 1) := by decide +kernel
theorem d59_226 : decode (mB m59) 226 = .ok (.iload 17, 2) := by decide +kernel
theorem d59_228 : decode (mB m59) 228 = .ok (.invokevirtual 30, 3) := by decide +kernel
theorem d59_231 : decode (mB m59) 231 = .ok (.iload 15, 2) := by decide +kernel
theorem d59_233 : decode (mB m59) 233 = .ok (.bipush 8, 2) := by decide +kernel
theorem d59_235 : decode (mB m59) 235 = .ok (.irem, 1) := by decide +kernel
theorem d59_236 : decode (mB m59) 236 = .ok (.if_icmp .eq 5, 3) := by decide +kernel
theorem d59_239 : decode (mB m59) 239 = .ok (.iconst 0, 1) := by decide +kernel
theorem d59_240 : decode (mB m59) 240 = .ok (.ireturn, 1) := by decide +kernel
theorem d59_241 : decode (mB m59) 241 = .ok (.aload_n 1, 1) := by decide +kernel
theorem d59_242 : decode (mB m59) 242 = .ok (.iload 17, 2) := by decide +kernel
theorem d59_244 : decode (mB m59) 244 = .ok (.iconst 1, 1) := by decide +kernel
theorem d59_245 : decode (mB m59) 245 = .ok (.iadd, 1) := by decide +kernel
theorem d59_246 : decode (mB m59) 246 = .ok (.invokevirtual 30, 3) := by decide +kernel
theorem d59_249 : decode (mB m59) 249 = .ok (.sipush 251, 3) := by decide +kernel
theorem d59_252 : decode (mB m59) 252 = .ok (.if_icmp .ne 12, 3) := by decide +kernel
theorem d59_255 : decode (mB m59) 255 = .ok (.aload_n 1, 1) := by decide +kernel
theorem d59_256 : decode (mB m59) 256 = .ok (.invokevirtual 17, 3) := by decide +kernel
theorem d59_259 : decode (mB m59) 259 = .ok (.iload 6, 2) := by decide +kernel
theorem d59_261 : decode (mB m59) 261 = .ok (.if_icmp .le 5, 3) := by decide +kernel
theorem d59_264 : decode (mB m59) 264 = .ok (.iconst 0, 1) := by decide +kernel
theorem d59_265 : decode (mB m59) 265 = .ok (.ireturn, 1) := by decide +kernel
theorem d59_266 : decode (mB m59) 266 = .ok (.iinc 2 1, 3) := by decide +kernel
theorem d59_269 : decode (mB m59) 269 = .ok (.iload 16, 2) := by decide +kernel
theorem d59_271 : decode (mB m59) 271 = .ok (.istore 4, 2) := by decide +kernel
theorem d59_273 : decode (mB m59) 273 = .ok (.goto 377, 3) := by decide +kernel
theorem d59_276 : decode (mB m59) 276 = .ok (.iload 11, 2) := by decide +kernel
theorem d59_278 : decode (mB m59) 278 = .ok (.iconst 1, 1) := by decide +kernel
theorem d59_279 : decode (mB m59) 279 = .ok (.if_icmp .ne 160, 3) := by decide +kernel
theorem d59_282 : decode (mB m59) 282 = .ok (.iload 12, 2) := by decide +kernel
theorem d59_284 : decode (mB m59) 284 = .ok (.iconst 1, 1) := by decide +kernel
theorem d59_285 : decode (mB m59) 285 = .ok (.iand, 1) := by decide +kernel
theorem d59_286 : decode (mB m59) 286 = .ok (.ifCond .ne 8, 3) := by decide +kernel
theorem d59_289 : decode (mB m59) 289 = .ok (.iload 4, 2) := by decide +kernel
theorem d59_291 : decode (mB m59) 291 = .ok (.goto 14, 3) := by decide +kernel
theorem d59_294 : decode (mB m59) 294 = .ok (.bipush 8, 2) := by decide +kernel
theorem d59_296 : decode (mB m59) 296 = .ok (.iload 13, 2) := by decide +kernel
theorem d59_298 : decode (mB m59) 298 = .ok (.ldc 7, 2) := by decide +kernel
theorem d59_300 : decode (mB m59) 300 = .ok (.iand, 1) := by decide +kernel
theorem d59_301 : decode (mB m59) 301 = .ok (.bipush 18, 2) := by decide +kernel
theorem d59_303 : decode (mB m59) 303 = .ok (.irem, 1) := by decide +kernel
theorem d59_304 : decode (mB m59) 304 = .ok (.imul, 1) := by decide +kernel
theorem d59_305 : decode (mB m59) 305 = .ok (.istore 15, 2) := by decide +kernel
theorem d59_307 : decode (mB m59) 307 = .ok (.aload_n 1, 1) := by decide +kernel
theorem d59_308 : decode (mB m59) 308 = .ok (.iload 15, 2) := by decide +kernel
theorem d59_310 : decode (mB m59) 310 = .ok (.invokevirtual 33, 3) := by decide +kernel
theorem d59_313 : decode (mB m59) 313 = .ok (.istore 16, 2) := by decide +kernel
theorem d59_315 : decode (mB m59) 315 = .ok (.iload 16, 2) := by decide +kernel
theorem d59_317 : decode (mB m59) 317 = .ok (.ifCond .ne 85, 3) := by decide +kernel
theorem d59_320 : decode (mB m59) 320 = .ok (.iinc 2 (-1), 3) := by decide +kernel
theorem d59_323 : decode (mB m59) 323 = .ok (.aload_n 1, 1) := by decide +kernel
theorem d59_324 : decode (mB m59) 324 = .ok (.iload 15, 2) := by decide +kernel
theorem d59_326 : decode (mB m59) 326 = .ok (.bipush 8, 2) := by decide +kernel
theorem d59_328 : decode (mB m59) 328 = .ok (.idiv, 1) := by decide +kernel
theorem d59_329 : decode (mB m59) 329 = .ok (.invokevirtual 30, 3) := by decide +kernel
theorem d59_332 : decode (mB m59) 332 = .ok (.istore 17, 2) := by decide +kernel
theorem d59_334 : decode (mB m59) 334 = .ok (.aload_n 1, 1) := by decide +kernel
theorem d59_335 : decode (mB m59) 335 = .ok (.iload 15, 2) := by decide +kernel
theorem d59_337 : decode (mB m59) 337 = .ok (.invokevirtual 27, 3) := by decide +kernel
theorem d59_340 : decode (mB m59) 340 = .ok (.iconst (-1), 1) := by decide +kernel
theorem d59_341 : decode (mB m59) 341 = .ok (.if_icmp .ne 14, 3) := by decide +kernel
theorem d59_344 : decode (mB m59) 344 = .ok (.aload_n 1, 1) := by decide +kernel
theorem d59_345 : decode (mB m59) 345 = .ok (.invokevirtual 17, 3) := by decide +kernel
theorem d59_348 : decode (mB m59) 348 = .ok (.iload 6, 2) := by decide +kernel
theorem d59_350 : decode (mB m59) 350 = .ok (.iconst 1, 1) := by decide +kernel
theorem d59_351 : decode (mB m59) 351 = .ok (.iadd, 1) := by decide +kernel
theorem d59_352 : decode (mB m59) 352 = .ok (.if_icmp .le 5, 3) := by decide +kernel
theorem d59_355 : decode (mB m59) 355 = .ok (.iconst 0, 1) := by decide +kernel
theorem d59_356 : decode (mB m59) 356 = .ok (.ireturn, 1) := by decide +kernel
theorem d59_357 : decode (mB m59) 357 = .ok (.iload 17, 2) := by decide +kernel
theorem d59_359 : decode (mB m59) 359 = .ok (.sipush 253, 3) := by decide +kernel
theorem d59_362 : decode (mB m59) 362 = .ok (.if_icmp .ne 27, 3) := by decide +kernel
theorem d59_365 : decode (mB m59) 365 = .ok (.aload_n 1, 1) := by decide +kernel
theorem d59_366 : decode (mB m59) 366 = .ok (.invokevirtual 17, 3) := by decide +kernel
theorem d59_369 : decode (mB m59) 369 = .ok (.iconst 1, 1) := by decide +kernel
theorem d59_370 : decode (mB m59) 370 = .ok (.isub, 1) := by decide +kernel
theorem d59_371 : decode (mB m59) 371 = .ok (.istore 18, 2) := by decide +kernel
theorem d59_373 : decode (mB m59) 373 = .ok (.aload_n 1, 1) := by decide +kernel
theorem d59_374 : decode (mB m59) 374 = .ok (.iload 18, 2) := by decide +kernel
theorem d59_376 : decode (mB m59) 376 = .ok (.invokevirtual 36, 3) := by decide +kernel
theorem d59_379 : decode (mB m59) 379 = .ok (.iload 15, 2) := by decide +kernel
theorem d59_381 : decode (mB m59) 381 = .ok (.if_icmp .eq 5, 3) := by decide +kernel
theorem d59_384 : decode (mB m59) 384 = .ok (.iconst 0, 1) := by decide +kernel
theorem d59_385 : decode (mB m59) 385 = .ok (.ireturn, 1) := by decide +kernel
theorem d59_386 : decode (mB m59) 386 = .ok (.goto 13, 3) := by decide +kernel
theorem d59_389 : decode (mB m59) 389 = .ok (.iload 17, 2) := by decide +kernel
theorem d59_391 : decode (mB m59) 391 = .ok (.sipush 254, 3) := by decide +kernel
theorem d59_394 : decode (mB m59) 394 = .ok (.if_icmp .eq 5, 3) := by decide +kernel
theorem d59_397 : decode (mB m59) 397 = .ok (.iconst 0, 1) := by decide +kernel
theorem d59_398 : decode (mB m59) 398 = .ok (.ireturn, 1) := by decide +kernel
theorem d59_399 : decode (mB m59) 399 = .ok (.goto 37, 3) := by decide +kernel
theorem d59_402 : decode (mB m59) 402 = .ok (.iload 16, 2) := by decide +kernel
theorem d59_404 : decode (mB m59) 404 = .ok (.iconst 1, 1) := by decide +kernel
theorem d59_405 : decode (mB m59) 405 = .ok (.if_icmp .eq 11, 3) := by decide +kernel
theorem d59_408 : decode (mB m59) 408 = .ok (.iload 16, 2) := by decide +kernel
theorem d59_410 : decode (mB m59) 410 = .ok (.iconst 2, 1) := by decide +kernel
theorem d59_411 : decode (mB m59) 411 = .ok (.if_icmp .eq 5, 3) := by decide +kernel
theorem d59_414 : decode (mB m59) 414 = .ok (.iconst 0, 1) := by decide +kernel
theorem d59_415 : decode (mB m59) 415 = .ok (.ireturn, 1) := by decide +kernel
theorem d59_416 : decode (mB m59) 416 = .ok (.aload_n 1, 1) := by decide +kernel
theorem d59_417 : decode (mB m59) 417 = .ok (.invokevirtual 17, 3) := by decide +kernel
theorem d59_420 : decode (mB m59) 420 = .ok (.iload 6, 2) := by decide +kernel
theorem d59_422 : decode (mB m59) 422 = .ok (.if_icmp .ne 12, 3) := by decide +kernel
theorem d59_425 : decode (mB m59) 425 = .ok (.aload_n 1, 1) := by decide +kernel
theorem d59_426 : decode (mB m59) 426 = .ok (.invokevirtual 21, 3) := by decide +kernel
theorem d59_429 : decode (mB m59) 429 = .ok (.iload 7, 2) := by decide +kernel
theorem d59_431 : decode (mB m59) 431 = .ok (.if_icmp .eq 5, 3) := by decide +kernel
theorem d59_434 : decode (mB m59) 434 = .ok (.iconst 0, 1) := by decide +kernel
theorem d59_435 : decode (mB m59) 435 = .ok (.ireturn, 1) := by decide +kernel
theorem d59_436 : decode (mB m59) 436 = .ok (.goto 214, 3) := by decide +kernel
theorem d59_439 : decode (mB m59) 439 = .ok (.iload 12, 2) := by decide +kernel
theorem d59_441 : decode (mB m59) 441 = .ok (.invokestatic 39, 3) := by decide +kernel
theorem d59_444 : decode (mB m59) 444 = .ok (.istore 15, 2) := by decide +kernel
theorem d59_446 : decode (mB m59) 446 = .ok (.iload 13, 2) := by decide +kernel
theorem d59_448 : decode (mB m59) 448 = .ok (.iload 4, 2) := by decide +kernel
theorem d59_450 : decode (mB m59) 450 = .ok (.invokestatic 44, 3) := by decide +kernel
theorem d59_453 : decode (mB m59) 453 = .ok (.istore 16, 2) := by decide +kernel
theorem d59_455 : decode (mB m59) 455 = .ok (.iload 11, 2) := by decide +kernel
theorem d59_457 : decode (mB m59) 457 = .ok (.iconst 2, 1) := by decide +kernel
theorem d59_458 : decode (mB m59) 458 = .ok (.if_icmp .ne 16, 3) := by decide +kernel
theorem d59_461 : decode (mB m59) 461 = .ok (.aload_n 1, 1) := by decide +kernel
theorem d59_462 : decode (mB m59) 462 = .ok (.iload 16, 2) := by decide +kernel
theorem d59_464 : decode (mB m59) 464 = .ok (.iload 15, 2) := by decide +kernel
theorem d59_466 : decode (mB m59) 466 = .ok (.invokevirtual 48, 3) := by decide +kernel
theorem d59_469 : decode (mB m59) 469 = .ok (.istore 17, 2) := by decide +kernel
theorem d59_471 : decode (mB m59) 471 = .ok (.goto 20, 3) := by decide +kernel
theorem d59_474 : decode (mB m59) 474 = .ok (.aload_n 1, 1) := by decide +kernel
theorem d59_475 : decode (mB m59) 475 = .ok (.iload 16, 2) := by decide +kernel
theorem d59_477 : decode (mB m59) 477 = .ok (.iload 15, 2) := by decide +kernel
theorem d59_479 : decode (mB m59) 479 = .ok (.iload 14, 2) := by decide +kernel
theorem d59_481 : decode (mB m59) 481 = .ok (.i2l, 1) := by decide +kernel
theorem d59_482 : decode (mB m59) 482 = .ok (.ldc2_w 51, 3) := by decide +kernel
theorem d59_485 : decode (mB m59) 485 = .ok (.lmul, 1) := by decide +kernel
theorem d59_486 : decode (mB m59) 486 = .ok (.invokevirtual 53, 3) := by decide +kernel
theorem d59_489 : decode (mB m59) 489 = .ok (.istore 17, 2) := by decide +kernel
theorem d59_491 : decode (mB m59) 491 = .ok (.iload 15, 2) := by decide +kernel
theorem d59_493 : decode (mB m59) 493 = .ok (.iconst 3, 1) := by decide +kernel
theorem d59_494 : decode (mB m59) 494 = .ok (.if_icmp .ne 12, 3) := by decide +kernel
theorem d59_497 : decode (mB m59) 497 = .ok (.iload 17, 2) := by decide +kernel
theorem d59_499 : decode (mB m59) 499 = .ok (.bipush 6, 2) := by decide +kernel
theorem d59_501 : decode (mB m59) 501 = .ok (.if_icmp .eq 129, 3) := by decide +kernel
theorem d59_504 : decode (mB m59) 504 = .ok (.iconst 0, 1) := by decide +kernel
theorem d59_505 : decode (mB m59) 505 = .ok (.ireturn, 1) := by decide +kernel
theorem d59_506 : decode (mB m59) 506 = .ok (.iload 17, 2) := by decide +kernel
theorem d59_508 : decode (mB m59) 508 = .ok (.ifCond .ne 57, 3) := by decide +kernel
theorem d59_511 : decode (mB m59) 511 = .ok (.iload 16, 2) := by decide +kernel
theorem d59_513 : decode (mB m59) 513 = .ok (.iload 15, 2) := by decide +kernel
theorem d59_515 : decode (mB m59) 515 = .ok (.iadd, 1) := by decide +kernel
theorem d59_516 : decode (mB m59) 516 = .ok (.sipush 128, 3) := by decide +kernel
theorem d59_519 : decode (mB m59) 519 = .ok (.if_icmp .le 5, 3) := by decide +kernel
theorem d59_522 : decode (mB m59) 522 = .ok (.iconst 0, 1) := by decide +kernel
theorem d59_523 : decode (mB m59) 523 = .ok (.ireturn, 1) := by decide +kernel
theorem d59_524 : decode (mB m59) 524 = .ok (.iload 11, 2) := by decide +kernel
theorem d59_526 : decode (mB m59) 526 = .ok (.iconst 2, 1) := by decide +kernel
theorem d59_527 : decode (mB m59) 527 = .ok (.if_icmp .ne 103, 3) := by decide +kernel
theorem d59_530 : decode (mB m59) 530 = .ok (.aload_n 1, 1) := by decide +kernel
theorem d59_531 : decode (mB m59) 531 = .ok (.invokevirtual 57, 3) := by decide +kernel
theorem d59_534 : decode (mB m59) 534 = .ok (.lstore 8, 2) := by decide +kernel
theorem d59_536 : decode (mB m59) 536 = .ok (.iload 15, 2) := by decide +kernel
theorem d59_538 : decode (mB m59) 538 = .ok (.bipush 8, 2) := by decide +kernel
theorem d59_540 : decode (mB m59) 540 = .ok (.if_icmp .ge 90, 3) := by decide +kernel
theorem d59_543 : decode (mB m59) 543 = .ok (.lload 8, 2) := by decide +kernel
theorem d59_545 : decode (mB m59) 545 = .ok (.lconst 0, 1) := by decide +kernel
theorem d59_546 : decode (mB m59) 546 = .ok (.lcmp, 1) := by decide +kernel
theorem d59_547 : decode (mB m59) 547 = .ok (.ifCond .lt 16, 3) := by decide +kernel
theorem d59_550 : decode (mB m59) 550 = .ok (.lload 8, 2) := by decide +kernel
theorem d59_552 : decode (mB m59) 552 = .ok (.lconst 1, 1) := by decide +kernel
theorem d59_553 : decode (mB m59) 553 = .ok (.bipush 8, 2) := by decide +kernel
theorem d59_555 : decode (mB m59) 555 = .ok (.iload 15, 2) := by decide +kernel
theorem d59_557 : decode (mB m59) 557 = .ok (.imul, 1) := by decide +kernel
theorem d59_558 : decode (mB m59) 558 = .ok (.lshl, 1) := by decide +kernel
theorem d59_559 : decode (mB m59) 559 = .ok (.lcmp, 1) := by decide +kernel
theorem d59_560 : decode (mB m59) 560 = .ok (.ifCond .lt 70, 3) := by decide +kernel
theorem d59_563 : decode (mB m59) 563 = .ok (.iconst 0, 1) := by decide +kernel
theorem d59_564 : decode (mB m59) 564 = .ok (.ireturn, 1) := by decide +kernel
theorem d59_565 : decode (mB m59) 565 = .ok (.iinc 3 1, 3) := by decide +kernel
theorem d59_568 : decode (mB m59) 568 = .ok (.aload_n 1, 1) := by decide +kernel
theorem d59_569 : decode (mB m59) 569 = .ok (.invokevirtual 61, 3) := by decide +kernel
theorem d59_572 : decode (mB m59) 572 = .ok (.istore 5, 2) := by decide +kernel
theorem d59_574 : decode (mB m59) 574 = .ok (.iload 17, 2) := by decide +kernel
theorem d59_576 : decode (mB m59) 576 = .ok (.iconst 1, 1) := by decide +kernel
theorem d59_577 : decode (mB m59) 577 = .ok (.if_icmp .lt 28, 3) := by decide +kernel
theorem d59_580 : decode (mB m59) 580 = .ok (.iload 17, 2) := by decide +kernel
theorem d59_582 : decode (mB m59) 582 = .ok (.iconst 5, 1) := by decide +kernel
theorem d59_583 : decode (mB m59) 583 = .ok (.if_icmp .gt 22, 3) := by decide +kernel
theorem d59_586 : decode (mB m59) 586 = .ok (.iload 5, 2) := by decide +kernel
theorem d59_588 : decode (mB m59) 588 = .ok (.iload 16, 2) := by decide +kernel
theorem d59_590 : decode (mB m59) 590 = .ok (.if_icmp .lt 15, 3) := by decide +kernel
theorem d59_593 : decode (mB m59) 593 = .ok (.iload 5, 2) := by decide +kernel
theorem d59_595 : decode (mB m59) 595 = .ok (.iload 16, 2) := by decide +kernel
theorem d59_597 : decode (mB m59) 597 = .ok (.iload 15, 2) := by decide +kernel
theorem d59_599 : decode (mB m59) 599 = .ok (.iadd, 1) := by decide +kernel
theorem d59_600 : decode (mB m59) 600 = .ok (.iconst 1, 1) := by decide +kernel
theorem d59_601 : decode (mB m59) 601 = .ok (.isub, 1) := by decide +kernel
theorem d59_602 : decode (mB m59) 602 = .ok (.if_icmp .le 5, 3) := by decide +kernel
theorem d59_605 : decode (mB m59) 605 = .ok (.iconst 0, 1) := by decide +kernel
theorem d59_606 : decode (mB m59) 606 = .ok (.ireturn, 1) := by decide +kernel
theorem d59_607 : decode (mB m59) 607 = .ok (.iload 16, 2) := by decide +kernel
theorem d59_609 : decode (mB m59) 609 = .ok (.sipush 128, 3) := by decide +kernel
theorem d59_612 : decode (mB m59) 612 = .ok (.if_icmp .lt 18, 3) := by decide +kernel
theorem d59_615 : decode (mB m59) 615 = .ok (.iload 17, 2) := by decide +kernel
theorem d59_617 : decode (mB m59) 617 = .ok (.iconst 5, 1) := by decide +kernel
theorem d59_618 : decode (mB m59) 618 = .ok (.if_icmp .ne 10, 3) := by decide +kernel
theorem d59_621 : decode (mB m59) 621 = .ok (.iload 5, 2) := by decide +kernel
theorem d59_623 : decode (mB m59) 623 = .ok (.iload 16, 2) := by decide +kernel
theorem d59_625 : decode (mB m59) 625 = .ok (.if_icmp .eq 5, 3) := by decide +kernel
theorem d59_628 : decode (mB m59) 628 = .ok (.iconst 0, 1) := by decide +kernel
theorem d59_629 : decode (mB m59) 629 = .ok (.ireturn, 1) := by decide +kernel
theorem d59_630 : decode (mB m59) 630 = .ok (.aload_n 1, 1) := by decide +kernel
theorem d59_631 : decode (mB m59) 631 = .ok (.invokevirtual 17, 3) := by decide +kernel
theorem d59_634 : decode (mB m59) 634 = .ok (.iload 6, 2) := by decide +kernel
theorem d59_636 : decode (mB m59) 636 = .ok (.if_icmp .ne 12, 3) := by decide +kernel
theorem d59_639 : decode (mB m59) 639 = .ok (.aload_n 1, 1) := by decide +kernel
theorem d59_640 : decode (mB m59) 640 = .ok (.invokevirtual 21, 3) := by decide +kernel
theorem d59_643 : decode (mB m59) 643 = .ok (.iload 7, 2) := by decide +kernel
theorem d59_645 : decode (mB m59) 645 = .ok (.if_icmp .eq 5, 3) := by decide +kernel
theorem d59_648 : decode (mB m59) 648 = .ok (.iconst 0, 1) := by decide +kernel
theorem d59_649 : decode (mB m59) 649 = .ok (.ireturn, 1) := by decide +kernel
theorem d59_650 : decode (mB m59) 650 = .ok (.aload_n 1, 1) := by decide +kernel
theorem d59_651 : decode (mB m59) 651 = .ok (.invokevirtual 17, 3) := by decide +kernel
theorem d59_654 : decode (mB m59) 654 = .ok (.istore 6, 2) := by decide +kernel
theorem d59_656 : decode (mB m59) 656 = .ok (.aload_n 1, 1) := by decide +kernel
theorem d59_657 : decode (mB m59) 657 = .ok (.invokevirtual 21, 3) := by decide +kernel
theorem d59_660 : decode (mB m59) 660 = .ok (.istore 7, 2) := by decide +kernel
theorem d59_662 : decode (mB m59) 662 = .ok (.aload_n 1, 1) := by decide +kernel
theorem d59_663 : decode (mB m59) 663 = .ok (.invokevirtual 64, 3) := by decide +kernel
theorem d59_666 : decode (mB m59) 666 = .ok (.iload_n 2, 1) := by decide +kernel
theorem d59_667 : decode (mB m59) 667 = .ok (.if_icmp .ne 30, 3) := by decide +kernel
theorem d59_670 : decode (mB m59) 670 = .ok (.aload_n 1, 1) := by decide +kernel
theorem d59_671 : decode (mB m59) 671 = .ok (.invokevirtual 67, 3) := by decide +kernel
theorem d59_674 : decode (mB m59) 674 = .ok (.iload_n 3, 1) := by decide +kernel
theorem d59_675 : decode (mB m59) 675 = .ok (.if_icmp .ne 22, 3) := by decide +kernel
theorem d59_678 : decode (mB m59) 678 = .ok (.aload_n 1, 1) := by decide +kernel
theorem d59_679 : decode (mB m59) 679 = .ok (.invokevirtual 61, 3) := by decide +kernel
theorem d59_682 : decode (mB m59) 682 = .ok (.iload 5, 2) := by decide +kernel
theorem d59_684 : decode (mB m59) 684 = .ok (.if_icmp .ne 13, 3) := by decide +kernel
theorem d59_687 : decode (mB m59) 687 = .ok (.aload_n 1, 1) := by decide +kernel
theorem d59_688 : decode (mB m59) 688 = .ok (.invokevirtual 57, 3) := by decide +kernel
theorem d59_691 : decode (mB m59) 691 = .ok (.lload 8, 2) := by decide +kernel
theorem d59_693 : decode (mB m59) 693 = .ok (.lcmp, 1) := by decide +kernel
theorem d59_694 : decode (mB m59) 694 = .ok (.ifCond .eq 5, 3) := by decide +kernel
theorem d59_697 : decode (mB m59) 697 = .ok (.iconst 0, 1) := by decide +kernel
theorem d59_698 : decode (mB m59) 698 = .ok (.ireturn, 1) := by decide +kernel
theorem d59_699 : decode (mB m59) 699 = .ok (.iload 7, 2) := by decide +kernel
theorem d59_701 : decode (mB m59) 701 = .ok (.ifCond .lt 28, 3) := by decide +kernel
theorem d59_704 : decode (mB m59) 704 = .ok (.iload 7, 2) := by decide +kernel
theorem d59_706 : decode (mB m59) 706 = .ok (.bipush 96, 2) := by decide +kernel
theorem d59_708 : decode (mB m59) 708 = .ok (.if_icmp .gt 21, 3) := by decide +kernel
theorem d59_711 : decode (mB m59) 711 = .ok (.iload 7, 2) := by decide +kernel
theorem d59_713 : decode (mB m59) 713 = .ok (.bipush 8, 2) := by decide +kernel
theorem d59_715 : decode (mB m59) 715 = .ok (.irem, 1) := by decide +kernel
theorem d59_716 : decode (mB m59) 716 = .ok (.ifCond .ne 13, 3) := by decide +kernel
theorem d59_719 : decode (mB m59) 719 = .ok (.iload 7, 2) := by decide +kernel
theorem d59_721 : decode (mB m59) 721 = .ok (.bipush 24, 2) := by decide +kernel
theorem d59_723 : decode (mB m59) 723 = .ok (.iload 6, 2) := by decide +kernel
theorem d59_725 : decode (mB m59) 725 = .ok (.imul, 1) := by decide +kernel
theorem d59_726 : decode (mB m59) 726 = .ok (.if_icmp .ge 5, 3) := by decide +kernel
theorem d59_729 : decode (mB m59) 729 = .ok (.iconst 0, 1) := by decide +kernel
theorem d59_730 : decode (mB m59) 730 = .ok (.ireturn, 1) := by decide +kernel
theorem d59_731 : decode (mB m59) 731 = .ok (.iconst 3, 1) := by decide +kernel
theorem d59_732 : decode (mB m59) 732 = .ok (.iload_n 2, 1) := by decide +kernel
theorem d59_733 : decode (mB m59) 733 = .ok (.iload 6, 2) := by decide +kernel
theorem d59_735 : decode (mB m59) 735 = .ok (.iadd, 1) := by decide +kernel
theorem d59_736 : decode (mB m59) 736 = .ok (.imul, 1) := by decide +kernel
theorem d59_737 : decode (mB m59) 737 = .ok (.aload_n 1, 1) := by decide +kernel
theorem d59_738 : decode (mB m59) 738 = .ok (.invokevirtual 24, 3) := by decide +kernel
theorem d59_741 : decode (mB m59) 741 = .ok (.iadd, 1) := by decide +kernel
theorem d59_742 : decode (mB m59) 742 = .ok (.bipush 16, 2) := by decide +kernel
theorem d59_744 : decode (mB m59) 744 = .ok (.if_icmp .gt 16, 3) := by decide +kernel
theorem d59_747 : decode (mB m59) 747 = .ok (.aload_n 1, 1) := by decide +kernel
theorem d59_748 : decode (mB m59) 748 = .ok (.invokevirtual 70, 3) := by decide +kernel
theorem d59_751 : decode (mB m59) 751 = .ok (.iload_n 2, 1) := by decide +kernel
theorem d59_752 : decode (mB m59) 752 = .ok (.iload 6, 2) := by decide +kernel
theorem d59_754 : decode (mB m59) 754 = .ok (.iadd, 1) := by decide +kernel
theorem d59_755 : decode (mB m59) 755 = .ok (.iconst 1, 1) := by decide +kernel
theorem d59_756 : decode (mB m59) 756 = .ok (.iadd, 1) := by decide +kernel
theorem d59_757 : decode (mB m59) 757 = .ok (.if_icmp .le 5, 3) := by decide +kernel
theorem d59_760 : decode (mB m59) 760 = .ok (.iconst 0, 1) := by decide +kernel
theorem d59_761 : decode (mB m59) 761 = .ok (.ireturn, 1) := by decide +kernel
theorem d59_762 : decode (mB m59) 762 = .ok (.iinc 10 4, 3) := by decide +kernel
theorem d59_765 : decode (mB m59) 765 = .ok (.goto (-730), 3) := by decide +kernel
theorem d59_768 : decode (mB m59) 768 = .ok (.iconst 1, 1) := by decide +kernel
theorem d59_769 : decode (mB m59) 769 = .ok (.ireturn, 1) := by decide +kernel
theorem cb_m2 : (-2 : Int32) = (Int8.ofInt (-2)).toInt32 := by decide
theorem cb_6 : (6 : Int32) = (Int8.ofInt (6)).toInt32 := by decide
theorem cb_7 : (7 : Int32) = (Int8.ofInt (7)).toInt32 := by decide
theorem cb_8 : (8 : Int32) = (Int8.ofInt (8)).toInt32 := by decide
theorem cb_16 : (16 : Int32) = (Int8.ofInt (16)).toInt32 := by decide
theorem cb_18 : (18 : Int32) = (Int8.ofInt (18)).toInt32 := by decide
theorem cb_24 : (24 : Int32) = (Int8.ofInt (24)).toInt32 := by decide
theorem cb_31 : (31 : Int32) = (Int8.ofInt (31)).toInt32 := by decide
theorem cb_32 : (32 : Int32) = (Int8.ofInt (32)).toInt32 := by decide
theorem cb_64 : (64 : Int32) = (Int8.ofInt (64)).toInt32 := by decide
theorem cb_67 : (67 : Int32) = (Int8.ofInt (67)).toInt32 := by decide
theorem cb_96 : (96 : Int32) = (Int8.ofInt (96)).toInt32 := by decide
theorem cb_127 : (127 : Int32) = (Int8.ofInt (127)).toInt32 := by decide
theorem ci_m1 : (-1 : Int32) = Int32.ofInt (-1) := by decide
theorem ci_0 : (0 : Int32) = Int32.ofInt (0) := by decide
theorem ci_1 : (1 : Int32) = Int32.ofInt (1) := by decide
theorem ci_2 : (2 : Int32) = Int32.ofInt (2) := by decide
theorem ci_3 : (3 : Int32) = Int32.ofInt (3) := by decide
theorem ci_4 : (4 : Int32) = Int32.ofInt (4) := by decide
theorem ci_5 : (5 : Int32) = Int32.ofInt (5) := by decide
theorem cl_0 : (0 : Int64) = Int64.ofNat ((0 : Fin 2)) := by decide
theorem cl_1 : (1 : Int64) = Int64.ofNat ((1 : Fin 2)) := by decide
theorem cs_128 : (128 : Int32) = (Int16.ofInt (128)).toInt32 := by decide
theorem cs_136 : (136 : Int32) = (Int16.ofInt (136)).toInt32 := by decide
theorem cs_250 : (250 : Int32) = (Int16.ofInt (250)).toInt32 := by decide
theorem cs_251 : (251 : Int32) = (Int16.ofInt (251)).toInt32 := by decide
theorem cs_253 : (253 : Int32) = (Int16.ofInt (253)).toInt32 := by decide
theorem cs_254 : (254 : Int32) = (Int16.ofInt (254)).toInt32 := by decide
theorem cs_255 : (255 : Int32) = (Int16.ofInt (255)).toInt32 := by decide
theorem cs_256 : (256 : Int32) = (Int16.ofInt (256)).toInt32 := by decide
theorem j_1_5 : 0 ≤ ((1 : Nat) : Int) + (5) ∧ (((1 : Nat) : Int) + (5)).toNat = 6 := by decide
theorem j_1_11 : 0 ≤ ((1 : Nat) : Int) + (11) ∧ (((1 : Nat) : Int) + (11)).toNat = 12 := by decide
theorem j_1_13 : 0 ≤ ((1 : Nat) : Int) + (13) ∧ (((1 : Nat) : Int) + (13)).toNat = 14 := by decide
theorem j_2_5 : 0 ≤ ((2 : Nat) : Int) + (5) ∧ (((2 : Nat) : Int) + (5)).toNat = 7 := by decide
theorem j_2_9 : 0 ≤ ((2 : Nat) : Int) + (9) ∧ (((2 : Nat) : Int) + (9)).toNat = 11 := by decide
theorem j_2_19 : 0 ≤ ((2 : Nat) : Int) + (19) ∧ (((2 : Nat) : Int) + (19)).toNat = 21 := by decide
theorem j_4_4 : 0 ≤ ((4 : Nat) : Int) + (4) ∧ (((4 : Nat) : Int) + (4)).toNat = 8 := by decide
theorem j_4_12 : 0 ≤ ((4 : Nat) : Int) + (12) ∧ (((4 : Nat) : Int) + (12)).toNat = 16 := by decide
theorem j_4_42 : 0 ≤ ((4 : Nat) : Int) + (42) ∧ (((4 : Nat) : Int) + (42)).toNat = 46 := by decide
theorem j_5_4 : 0 ≤ ((5 : Nat) : Int) + (4) ∧ (((5 : Nat) : Int) + (4)).toNat = 9 := by decide
theorem j_5_5 : 0 ≤ ((5 : Nat) : Int) + (5) ∧ (((5 : Nat) : Int) + (5)).toNat = 10 := by decide
theorem j_5_6 : 0 ≤ ((5 : Nat) : Int) + (6) ∧ (((5 : Nat) : Int) + (6)).toNat = 11 := by decide
theorem j_5_16 : 0 ≤ ((5 : Nat) : Int) + (16) ∧ (((5 : Nat) : Int) + (16)).toNat = 21 := by decide
theorem j_5_17 : 0 ≤ ((5 : Nat) : Int) + (17) ∧ (((5 : Nat) : Int) + (17)).toNat = 22 := by decide
theorem j_5_20 : 0 ≤ ((5 : Nat) : Int) + (20) ∧ (((5 : Nat) : Int) + (20)).toNat = 25 := by decide
theorem j_5_23 : 0 ≤ ((5 : Nat) : Int) + (23) ∧ (((5 : Nat) : Int) + (23)).toNat = 28 := by decide
theorem j_5_25 : 0 ≤ ((5 : Nat) : Int) + (25) ∧ (((5 : Nat) : Int) + (25)).toNat = 30 := by decide
theorem j_5_30 : 0 ≤ ((5 : Nat) : Int) + (30) ∧ (((5 : Nat) : Int) + (30)).toNat = 35 := by decide
theorem j_5_31 : 0 ≤ ((5 : Nat) : Int) + (31) ∧ (((5 : Nat) : Int) + (31)).toNat = 36 := by decide
theorem j_6_7 : 0 ≤ ((6 : Nat) : Int) + (7) ∧ (((6 : Nat) : Int) + (7)).toNat = 13 := by decide
theorem j_6_15 : 0 ≤ ((6 : Nat) : Int) + (15) ∧ (((6 : Nat) : Int) + (15)).toNat = 21 := by decide
theorem j_6_44 : 0 ≤ ((6 : Nat) : Int) + (44) ∧ (((6 : Nat) : Int) + (44)).toNat = 50 := by decide
theorem j_6_56 : 0 ≤ ((6 : Nat) : Int) + (56) ∧ (((6 : Nat) : Int) + (56)).toNat = 62 := by decide
theorem j_7_5 : 0 ≤ ((7 : Nat) : Int) + (5) ∧ (((7 : Nat) : Int) + (5)).toNat = 12 := by decide
theorem j_7_7 : 0 ≤ ((7 : Nat) : Int) + (7) ∧ (((7 : Nat) : Int) + (7)).toNat = 14 := by decide
theorem j_7_14 : 0 ≤ ((7 : Nat) : Int) + (14) ∧ (((7 : Nat) : Int) + (14)).toNat = 21 := by decide
theorem j_7_27 : 0 ≤ ((7 : Nat) : Int) + (27) ∧ (((7 : Nat) : Int) + (27)).toNat = 34 := by decide
theorem j_7_28 : 0 ≤ ((7 : Nat) : Int) + (28) ∧ (((7 : Nat) : Int) + (28)).toNat = 35 := by decide
theorem j_8_5 : 0 ≤ ((8 : Nat) : Int) + (5) ∧ (((8 : Nat) : Int) + (5)).toNat = 13 := by decide
theorem j_8_20 : 0 ≤ ((8 : Nat) : Int) + (20) ∧ (((8 : Nat) : Int) + (20)).toNat = 28 := by decide
theorem j_8_61 : 0 ≤ ((8 : Nat) : Int) + (61) ∧ (((8 : Nat) : Int) + (61)).toNat = 69 := by decide
theorem j_9_4 : 0 ≤ ((9 : Nat) : Int) + (4) ∧ (((9 : Nat) : Int) + (4)).toNat = 13 := by decide
theorem j_9_5 : 0 ≤ ((9 : Nat) : Int) + (5) ∧ (((9 : Nat) : Int) + (5)).toNat = 14 := by decide
theorem j_9_32 : 0 ≤ ((9 : Nat) : Int) + (32) ∧ (((9 : Nat) : Int) + (32)).toNat = 41 := by decide
theorem j_10_11 : 0 ≤ ((10 : Nat) : Int) + (11) ∧ (((10 : Nat) : Int) + (11)).toNat = 21 := by decide
theorem j_10_36 : 0 ≤ ((10 : Nat) : Int) + (36) ∧ (((10 : Nat) : Int) + (36)).toNat = 46 := by decide
theorem j_11_4 : 0 ≤ ((11 : Nat) : Int) + (4) ∧ (((11 : Nat) : Int) + (4)).toNat = 15 := by decide
theorem j_11_5 : 0 ≤ ((11 : Nat) : Int) + (5) ∧ (((11 : Nat) : Int) + (5)).toNat = 16 := by decide
theorem j_11_30 : 0 ≤ ((11 : Nat) : Int) + (30) ∧ (((11 : Nat) : Int) + (30)).toNat = 41 := by decide
theorem j_12_9 : 0 ≤ ((12 : Nat) : Int) + (9) ∧ (((12 : Nat) : Int) + (9)).toNat = 21 := by decide
theorem j_13_21 : 0 ≤ ((13 : Nat) : Int) + (21) ∧ (((13 : Nat) : Int) + (21)).toNat = 34 := by decide
theorem j_13_37 : 0 ≤ ((13 : Nat) : Int) + (37) ∧ (((13 : Nat) : Int) + (37)).toNat = 50 := by decide
theorem j_13_49 : 0 ≤ ((13 : Nat) : Int) + (49) ∧ (((13 : Nat) : Int) + (49)).toNat = 62 := by decide
theorem j_14_5 : 0 ≤ ((14 : Nat) : Int) + (5) ∧ (((14 : Nat) : Int) + (5)).toNat = 19 := by decide
theorem j_14_14 : 0 ≤ ((14 : Nat) : Int) + (14) ∧ (((14 : Nat) : Int) + (14)).toNat = 28 := by decide
theorem j_15_7 : 0 ≤ ((15 : Nat) : Int) + (7) ∧ (((15 : Nat) : Int) + (7)).toNat = 22 := by decide
theorem j_15_26 : 0 ≤ ((15 : Nat) : Int) + (26) ∧ (((15 : Nat) : Int) + (26)).toNat = 41 := by decide
theorem j_15_54 : 0 ≤ ((15 : Nat) : Int) + (54) ∧ (((15 : Nat) : Int) + (54)).toNat = 69 := by decide
theorem j_16_20 : 0 ≤ ((16 : Nat) : Int) + (20) ∧ (((16 : Nat) : Int) + (20)).toNat = 36 := by decide
theorem j_17_5 : 0 ≤ ((17 : Nat) : Int) + (5) ∧ (((17 : Nat) : Int) + (5)).toNat = 22 := by decide
theorem j_18_m16 : 0 ≤ ((18 : Nat) : Int) + (-16) ∧ (((18 : Nat) : Int) + (-16)).toNat = 2 := by decide
theorem j_18_4 : 0 ≤ ((18 : Nat) : Int) + (4) ∧ (((18 : Nat) : Int) + (4)).toNat = 22 := by decide
theorem j_18_5 : 0 ≤ ((18 : Nat) : Int) + (5) ∧ (((18 : Nat) : Int) + (5)).toNat = 23 := by decide
theorem j_18_7 : 0 ≤ ((18 : Nat) : Int) + (7) ∧ (((18 : Nat) : Int) + (7)).toNat = 25 := by decide
theorem j_19_4 : 0 ≤ ((19 : Nat) : Int) + (4) ∧ (((19 : Nat) : Int) + (4)).toNat = 23 := by decide
theorem j_19_5 : 0 ≤ ((19 : Nat) : Int) + (5) ∧ (((19 : Nat) : Int) + (5)).toNat = 24 := by decide
theorem j_19_7 : 0 ≤ ((19 : Nat) : Int) + (7) ∧ (((19 : Nat) : Int) + (7)).toNat = 26 := by decide
theorem j_19_44 : 0 ≤ ((19 : Nat) : Int) + (44) ∧ (((19 : Nat) : Int) + (44)).toNat = 63 := by decide
theorem j_21_6 : 0 ≤ ((21 : Nat) : Int) + (6) ∧ (((21 : Nat) : Int) + (6)).toNat = 27 := by decide
theorem j_22_m20 : 0 ≤ ((22 : Nat) : Int) + (-20) ∧ (((22 : Nat) : Int) + (-20)).toNat = 2 := by decide
theorem j_22_4 : 0 ≤ ((22 : Nat) : Int) + (4) ∧ (((22 : Nat) : Int) + (4)).toNat = 26 := by decide
theorem j_22_19 : 0 ≤ ((22 : Nat) : Int) + (19) ∧ (((22 : Nat) : Int) + (19)).toNat = 41 := by decide
theorem j_22_43 : 0 ≤ ((22 : Nat) : Int) + (43) ∧ (((22 : Nat) : Int) + (43)).toNat = 65 := by decide
theorem j_23_4 : 0 ≤ ((23 : Nat) : Int) + (4) ∧ (((23 : Nat) : Int) + (4)).toNat = 27 := by decide
theorem j_23_5 : 0 ≤ ((23 : Nat) : Int) + (5) ∧ (((23 : Nat) : Int) + (5)).toNat = 28 := by decide
theorem j_23_13 : 0 ≤ ((23 : Nat) : Int) + (13) ∧ (((23 : Nat) : Int) + (13)).toNat = 36 := by decide
theorem j_24_20 : 0 ≤ ((24 : Nat) : Int) + (20) ∧ (((24 : Nat) : Int) + (20)).toNat = 44 := by decide
theorem j_24_32 : 0 ≤ ((24 : Nat) : Int) + (32) ∧ (((24 : Nat) : Int) + (32)).toNat = 56 := by decide
theorem j_25_m23 : 0 ≤ ((25 : Nat) : Int) + (-23) ∧ (((25 : Nat) : Int) + (-23)).toNat = 2 := by decide
theorem j_25_10 : 0 ≤ ((25 : Nat) : Int) + (10) ∧ (((25 : Nat) : Int) + (10)).toNat = 35 := by decide
theorem j_26_6 : 0 ≤ ((26 : Nat) : Int) + (6) ∧ (((26 : Nat) : Int) + (6)).toNat = 32 := by decide
theorem j_26_37 : 0 ≤ ((26 : Nat) : Int) + (37) ∧ (((26 : Nat) : Int) + (37)).toNat = 63 := by decide
theorem j_27_m25 : 0 ≤ ((27 : Nat) : Int) + (-25) ∧ (((27 : Nat) : Int) + (-25)).toNat = 2 := by decide
theorem j_27_5 : 0 ≤ ((27 : Nat) : Int) + (5) ∧ (((27 : Nat) : Int) + (5)).toNat = 32 := by decide
theorem j_28_7 : 0 ≤ ((28 : Nat) : Int) + (7) ∧ (((28 : Nat) : Int) + (7)).toNat = 35 := by decide
theorem j_28_12 : 0 ≤ ((28 : Nat) : Int) + (12) ∧ (((28 : Nat) : Int) + (12)).toNat = 40 := by decide
theorem j_28_37 : 0 ≤ ((28 : Nat) : Int) + (37) ∧ (((28 : Nat) : Int) + (37)).toNat = 65 := by decide
theorem j_31_m29 : 0 ≤ ((31 : Nat) : Int) + (-29) ∧ (((31 : Nat) : Int) + (-29)).toNat = 2 := by decide
theorem j_31_46 : 0 ≤ ((31 : Nat) : Int) + (46) ∧ (((31 : Nat) : Int) + (46)).toNat = 77 := by decide
theorem j_32_m30 : 0 ≤ ((32 : Nat) : Int) + (-30) ∧ (((32 : Nat) : Int) + (-30)).toNat = 2 := by decide
theorem j_32_4 : 0 ≤ ((32 : Nat) : Int) + (4) ∧ (((32 : Nat) : Int) + (4)).toNat = 36 := by decide
theorem j_32_5 : 0 ≤ ((32 : Nat) : Int) + (5) ∧ (((32 : Nat) : Int) + (5)).toNat = 37 := by decide
theorem j_33_m31 : 0 ≤ ((33 : Nat) : Int) + (-31) ∧ (((33 : Nat) : Int) + (-31)).toNat = 2 := by decide
theorem j_33_11 : 0 ≤ ((33 : Nat) : Int) + (11) ∧ (((33 : Nat) : Int) + (11)).toNat = 44 := by decide
theorem j_33_23 : 0 ≤ ((33 : Nat) : Int) + (23) ∧ (((33 : Nat) : Int) + (23)).toNat = 56 := by decide
theorem j_34_5 : 0 ≤ ((34 : Nat) : Int) + (5) ∧ (((34 : Nat) : Int) + (5)).toNat = 39 := by decide
theorem j_35_28 : 0 ≤ ((35 : Nat) : Int) + (28) ∧ (((35 : Nat) : Int) + (28)).toNat = 63 := by decide
theorem j_36_16 : 0 ≤ ((36 : Nat) : Int) + (16) ∧ (((36 : Nat) : Int) + (16)).toNat = 52 := by decide
theorem j_36_41 : 0 ≤ ((36 : Nat) : Int) + (41) ∧ (((36 : Nat) : Int) + (41)).toNat = 77 := by decide
theorem j_37_20 : 0 ≤ ((37 : Nat) : Int) + (20) ∧ (((37 : Nat) : Int) + (20)).toNat = 57 := by decide
theorem j_38_m34 : 0 ≤ ((38 : Nat) : Int) + (-34) ∧ (((38 : Nat) : Int) + (-34)).toNat = 4 := by decide
theorem j_38_m30 : 0 ≤ ((38 : Nat) : Int) + (-30) ∧ (((38 : Nat) : Int) + (-30)).toNat = 8 := by decide
theorem j_39_5 : 0 ≤ ((39 : Nat) : Int) + (5) ∧ (((39 : Nat) : Int) + (5)).toNat = 44 := by decide
theorem j_39_8 : 0 ≤ ((39 : Nat) : Int) + (8) ∧ (((39 : Nat) : Int) + (8)).toNat = 47 := by decide
theorem j_40_6 : 0 ≤ ((40 : Nat) : Int) + (6) ∧ (((40 : Nat) : Int) + (6)).toNat = 46 := by decide
theorem j_41_5 : 0 ≤ ((41 : Nat) : Int) + (5) ∧ (((41 : Nat) : Int) + (5)).toNat = 46 := by decide
theorem j_41_727 : 0 ≤ ((41 : Nat) : Int) + (727) ∧ (((41 : Nat) : Int) + (727)).toNat = 768 := by decide
theorem j_43_m41 : 0 ≤ ((43 : Nat) : Int) + (-41) ∧ (((43 : Nat) : Int) + (-41)).toNat = 2 := by decide
theorem j_43_19 : 0 ≤ ((43 : Nat) : Int) + (19) ∧ (((43 : Nat) : Int) + (19)).toNat = 62 := by decide
theorem j_46_11 : 0 ≤ ((46 : Nat) : Int) + (11) ∧ (((46 : Nat) : Int) + (11)).toNat = 57 := by decide
theorem j_47_m44 : 0 ≤ ((47 : Nat) : Int) + (-44) ∧ (((47 : Nat) : Int) + (-44)).toNat = 3 := by decide
theorem j_49_m17 : 0 ≤ ((49 : Nat) : Int) + (-17) ∧ (((49 : Nat) : Int) + (-17)).toNat = 32 := by decide
theorem j_50_5 : 0 ≤ ((50 : Nat) : Int) + (5) ∧ (((50 : Nat) : Int) + (5)).toNat = 55 := by decide
theorem j_55_7 : 0 ≤ ((55 : Nat) : Int) + (7) ∧ (((55 : Nat) : Int) + (7)).toNat = 62 := by decide
theorem j_59_m56 : 0 ≤ ((59 : Nat) : Int) + (-56) ∧ (((59 : Nat) : Int) + (-56)).toNat = 3 := by decide
theorem j_59_4 : 0 ≤ ((59 : Nat) : Int) + (4) ∧ (((59 : Nat) : Int) + (4)).toNat = 63 := by decide
theorem j_60_m44 : 0 ≤ ((60 : Nat) : Int) + (-44) ∧ (((60 : Nat) : Int) + (-44)).toNat = 16 := by decide
theorem j_61_5 : 0 ≤ ((61 : Nat) : Int) + (5) ∧ (((61 : Nat) : Int) + (5)).toNat = 66 := by decide
theorem j_62_m47 : 0 ≤ ((62 : Nat) : Int) + (-47) ∧ (((62 : Nat) : Int) + (-47)).toNat = 15 := by decide
theorem j_66_m61 : 0 ≤ ((66 : Nat) : Int) + (-61) ∧ (((66 : Nat) : Int) + (-61)).toNat = 5 := by decide
theorem j_67_35 : 0 ≤ ((67 : Nat) : Int) + (35) ∧ (((67 : Nat) : Int) + (35)).toNat = 102 := by decide
theorem j_70_8 : 0 ≤ ((70 : Nat) : Int) + (8) ∧ (((70 : Nat) : Int) + (8)).toNat = 78 := by decide
theorem j_72_30 : 0 ≤ ((72 : Nat) : Int) + (30) ∧ (((72 : Nat) : Int) + (30)).toNat = 102 := by decide
theorem j_74_m46 : 0 ≤ ((74 : Nat) : Int) + (-46) ∧ (((74 : Nat) : Int) + (-46)).toNat = 28 := by decide
theorem j_78_198 : 0 ≤ ((78 : Nat) : Int) + (198) ∧ (((78 : Nat) : Int) + (198)).toNat = 276 := by decide
theorem j_86_26 : 0 ≤ ((86 : Nat) : Int) + (26) ∧ (((86 : Nat) : Int) + (26)).toNat = 112 := by decide
theorem j_91_21 : 0 ≤ ((91 : Nat) : Int) + (21) ∧ (((91 : Nat) : Int) + (21)).toNat = 112 := by decide
theorem j_99_55 : 0 ≤ ((99 : Nat) : Int) + (55) ∧ (((99 : Nat) : Int) + (55)).toNat = 154 := by decide
theorem j_100_12 : 0 ≤ ((100 : Nat) : Int) + (12) ∧ (((100 : Nat) : Int) + (12)).toNat = 112 := by decide
theorem j_102_10 : 0 ≤ ((102 : Nat) : Int) + (10) ∧ (((102 : Nat) : Int) + (10)).toNat = 112 := by decide
theorem j_104_18 : 0 ≤ ((104 : Nat) : Int) + (18) ∧ (((104 : Nat) : Int) + (18)).toNat = 122 := by decide
theorem j_109_11 : 0 ≤ ((109 : Nat) : Int) + (11) ∧ (((109 : Nat) : Int) + (11)).toNat = 120 := by decide
theorem j_115_158 : 0 ≤ ((115 : Nat) : Int) + (158) ∧ (((115 : Nat) : Int) + (158)).toNat = 273 := by decide
theorem j_119_35 : 0 ≤ ((119 : Nat) : Int) + (35) ∧ (((119 : Nat) : Int) + (35)).toNat = 154 := by decide
theorem j_124_23 : 0 ≤ ((124 : Nat) : Int) + (23) ∧ (((124 : Nat) : Int) + (23)).toNat = 147 := by decide
theorem j_124_38 : 0 ≤ ((124 : Nat) : Int) + (38) ∧ (((124 : Nat) : Int) + (38)).toNat = 162 := by decide
theorem j_131_10 : 0 ≤ ((131 : Nat) : Int) + (10) ∧ (((131 : Nat) : Int) + (10)).toNat = 141 := by decide
theorem j_138_5 : 0 ≤ ((138 : Nat) : Int) + (5) ∧ (((138 : Nat) : Int) + (5)).toNat = 143 := by decide
theorem j_144_10 : 0 ≤ ((144 : Nat) : Int) + (10) ∧ (((144 : Nat) : Int) + (10)).toNat = 154 := by decide
theorem j_157_116 : 0 ≤ ((157 : Nat) : Int) + (116) ∧ (((157 : Nat) : Int) + (116)).toNat = 273 := by decide
theorem j_166_22 : 0 ≤ ((166 : Nat) : Int) + (22) ∧ (((166 : Nat) : Int) + (22)).toNat = 188 := by decide
theorem j_174_14 : 0 ≤ ((174 : Nat) : Int) + (14) ∧ (((174 : Nat) : Int) + (14)).toNat = 188 := by decide
theorem j_185_5 : 0 ≤ ((185 : Nat) : Int) + (5) ∧ (((185 : Nat) : Int) + (5)).toNat = 190 := by decide
theorem j_222_17 : 0 ≤ ((222 : Nat) : Int) + (17) ∧ (((222 : Nat) : Int) + (17)).toNat = 239 := by decide
theorem j_236_5 : 0 ≤ ((236 : Nat) : Int) + (5) ∧ (((236 : Nat) : Int) + (5)).toNat = 241 := by decide
theorem j_252_12 : 0 ≤ ((252 : Nat) : Int) + (12) ∧ (((252 : Nat) : Int) + (12)).toNat = 264 := by decide
theorem j_261_5 : 0 ≤ ((261 : Nat) : Int) + (5) ∧ (((261 : Nat) : Int) + (5)).toNat = 266 := by decide
theorem j_273_377 : 0 ≤ ((273 : Nat) : Int) + (377) ∧ (((273 : Nat) : Int) + (377)).toNat = 650 := by decide
theorem j_279_160 : 0 ≤ ((279 : Nat) : Int) + (160) ∧ (((279 : Nat) : Int) + (160)).toNat = 439 := by decide
theorem j_286_8 : 0 ≤ ((286 : Nat) : Int) + (8) ∧ (((286 : Nat) : Int) + (8)).toNat = 294 := by decide
theorem j_291_14 : 0 ≤ ((291 : Nat) : Int) + (14) ∧ (((291 : Nat) : Int) + (14)).toNat = 305 := by decide
theorem j_317_85 : 0 ≤ ((317 : Nat) : Int) + (85) ∧ (((317 : Nat) : Int) + (85)).toNat = 402 := by decide
theorem j_341_14 : 0 ≤ ((341 : Nat) : Int) + (14) ∧ (((341 : Nat) : Int) + (14)).toNat = 355 := by decide
theorem j_352_5 : 0 ≤ ((352 : Nat) : Int) + (5) ∧ (((352 : Nat) : Int) + (5)).toNat = 357 := by decide
theorem j_362_27 : 0 ≤ ((362 : Nat) : Int) + (27) ∧ (((362 : Nat) : Int) + (27)).toNat = 389 := by decide
theorem j_381_5 : 0 ≤ ((381 : Nat) : Int) + (5) ∧ (((381 : Nat) : Int) + (5)).toNat = 386 := by decide
theorem j_386_13 : 0 ≤ ((386 : Nat) : Int) + (13) ∧ (((386 : Nat) : Int) + (13)).toNat = 399 := by decide
theorem j_394_5 : 0 ≤ ((394 : Nat) : Int) + (5) ∧ (((394 : Nat) : Int) + (5)).toNat = 399 := by decide
theorem j_399_37 : 0 ≤ ((399 : Nat) : Int) + (37) ∧ (((399 : Nat) : Int) + (37)).toNat = 436 := by decide
theorem j_405_11 : 0 ≤ ((405 : Nat) : Int) + (11) ∧ (((405 : Nat) : Int) + (11)).toNat = 416 := by decide
theorem j_411_5 : 0 ≤ ((411 : Nat) : Int) + (5) ∧ (((411 : Nat) : Int) + (5)).toNat = 416 := by decide
theorem j_422_12 : 0 ≤ ((422 : Nat) : Int) + (12) ∧ (((422 : Nat) : Int) + (12)).toNat = 434 := by decide
theorem j_431_5 : 0 ≤ ((431 : Nat) : Int) + (5) ∧ (((431 : Nat) : Int) + (5)).toNat = 436 := by decide
theorem j_436_214 : 0 ≤ ((436 : Nat) : Int) + (214) ∧ (((436 : Nat) : Int) + (214)).toNat = 650 := by decide
theorem j_458_16 : 0 ≤ ((458 : Nat) : Int) + (16) ∧ (((458 : Nat) : Int) + (16)).toNat = 474 := by decide
theorem j_471_20 : 0 ≤ ((471 : Nat) : Int) + (20) ∧ (((471 : Nat) : Int) + (20)).toNat = 491 := by decide
theorem j_494_12 : 0 ≤ ((494 : Nat) : Int) + (12) ∧ (((494 : Nat) : Int) + (12)).toNat = 506 := by decide
theorem j_501_129 : 0 ≤ ((501 : Nat) : Int) + (129) ∧ (((501 : Nat) : Int) + (129)).toNat = 630 := by decide
theorem j_508_57 : 0 ≤ ((508 : Nat) : Int) + (57) ∧ (((508 : Nat) : Int) + (57)).toNat = 565 := by decide
theorem j_519_5 : 0 ≤ ((519 : Nat) : Int) + (5) ∧ (((519 : Nat) : Int) + (5)).toNat = 524 := by decide
theorem j_527_103 : 0 ≤ ((527 : Nat) : Int) + (103) ∧ (((527 : Nat) : Int) + (103)).toNat = 630 := by decide
theorem j_540_90 : 0 ≤ ((540 : Nat) : Int) + (90) ∧ (((540 : Nat) : Int) + (90)).toNat = 630 := by decide
theorem j_547_16 : 0 ≤ ((547 : Nat) : Int) + (16) ∧ (((547 : Nat) : Int) + (16)).toNat = 563 := by decide
theorem j_560_70 : 0 ≤ ((560 : Nat) : Int) + (70) ∧ (((560 : Nat) : Int) + (70)).toNat = 630 := by decide
theorem j_577_28 : 0 ≤ ((577 : Nat) : Int) + (28) ∧ (((577 : Nat) : Int) + (28)).toNat = 605 := by decide
theorem j_583_22 : 0 ≤ ((583 : Nat) : Int) + (22) ∧ (((583 : Nat) : Int) + (22)).toNat = 605 := by decide
theorem j_590_15 : 0 ≤ ((590 : Nat) : Int) + (15) ∧ (((590 : Nat) : Int) + (15)).toNat = 605 := by decide
theorem j_602_5 : 0 ≤ ((602 : Nat) : Int) + (5) ∧ (((602 : Nat) : Int) + (5)).toNat = 607 := by decide
theorem j_612_18 : 0 ≤ ((612 : Nat) : Int) + (18) ∧ (((612 : Nat) : Int) + (18)).toNat = 630 := by decide
theorem j_618_10 : 0 ≤ ((618 : Nat) : Int) + (10) ∧ (((618 : Nat) : Int) + (10)).toNat = 628 := by decide
theorem j_625_5 : 0 ≤ ((625 : Nat) : Int) + (5) ∧ (((625 : Nat) : Int) + (5)).toNat = 630 := by decide
theorem j_636_12 : 0 ≤ ((636 : Nat) : Int) + (12) ∧ (((636 : Nat) : Int) + (12)).toNat = 648 := by decide
theorem j_645_5 : 0 ≤ ((645 : Nat) : Int) + (5) ∧ (((645 : Nat) : Int) + (5)).toNat = 650 := by decide
theorem j_667_30 : 0 ≤ ((667 : Nat) : Int) + (30) ∧ (((667 : Nat) : Int) + (30)).toNat = 697 := by decide
theorem j_675_22 : 0 ≤ ((675 : Nat) : Int) + (22) ∧ (((675 : Nat) : Int) + (22)).toNat = 697 := by decide
theorem j_684_13 : 0 ≤ ((684 : Nat) : Int) + (13) ∧ (((684 : Nat) : Int) + (13)).toNat = 697 := by decide
theorem j_694_5 : 0 ≤ ((694 : Nat) : Int) + (5) ∧ (((694 : Nat) : Int) + (5)).toNat = 699 := by decide
theorem j_701_28 : 0 ≤ ((701 : Nat) : Int) + (28) ∧ (((701 : Nat) : Int) + (28)).toNat = 729 := by decide
theorem j_708_21 : 0 ≤ ((708 : Nat) : Int) + (21) ∧ (((708 : Nat) : Int) + (21)).toNat = 729 := by decide
theorem j_716_13 : 0 ≤ ((716 : Nat) : Int) + (13) ∧ (((716 : Nat) : Int) + (13)).toNat = 729 := by decide
theorem j_726_5 : 0 ≤ ((726 : Nat) : Int) + (5) ∧ (((726 : Nat) : Int) + (5)).toNat = 731 := by decide
theorem j_744_16 : 0 ≤ ((744 : Nat) : Int) + (16) ∧ (((744 : Nat) : Int) + (16)).toNat = 760 := by decide
theorem j_757_5 : 0 ≤ ((757 : Nat) : Int) + (5) ∧ (((757 : Nat) : Int) + (5)).toNat = 762 := by decide
theorem j_765_m730 : 0 ≤ ((765 : Nat) : Int) + (-730) ∧ (((765 : Nat) : Int) + (-730)).toNat = 35 := by decide
theorem lk_0_38 : LinkP PP "ShadowRedzoneY" 38 m0 := ⟨List.mem_of_getElem? (i := 29) rfl, List.mem_of_getElem? (i := 30) rfl, List.mem_of_getElem? (i := 31) rfl, List.mem_of_getElem? (i := 32) rfl, rfl, rfl⟩
theorem lk_0_55 : LinkP PP "ShadowRedzoneY" 55 m1 := ⟨List.mem_of_getElem? (i := 41) rfl, List.mem_of_getElem? (i := 42) rfl, List.mem_of_getElem? (i := 43) rfl, List.mem_of_getElem? (i := 44) rfl, rfl, rfl⟩
theorem lk_0_58 : LinkP PP "ShadowRedzoneY" 58 m2 := ⟨List.mem_of_getElem? (i := 45) rfl, List.mem_of_getElem? (i := 46) rfl, List.mem_of_getElem? (i := 47) rfl, List.mem_of_getElem? (i := 48) rfl, rfl, rfl⟩
theorem lk_0_61 : LinkP PP "ShadowRedzoneY" 61 m3 := ⟨List.mem_of_getElem? (i := 49) rfl, List.mem_of_getElem? (i := 50) rfl, List.mem_of_getElem? (i := 51) rfl, List.mem_of_getElem? (i := 52) rfl, rfl, rfl⟩
theorem lk_0_64 : LinkP PP "ShadowRedzoneY" 64 m4 := ⟨List.mem_of_getElem? (i := 59) rfl, List.mem_of_getElem? (i := 60) rfl, List.mem_of_getElem? (i := 61) rfl, List.mem_of_getElem? (i := 62) rfl, rfl, rfl⟩
theorem lk_0_80 : LinkP PP "ShadowRedzoneY" 80 m7 := ⟨List.mem_of_getElem? (i := 164) rfl, List.mem_of_getElem? (i := 165) rfl, List.mem_of_getElem? (i := 166) rfl, List.mem_of_getElem? (i := 167) rfl, rfl, rfl⟩
theorem lk_0_84 : LinkP PP "ShadowRedzoneY" 84 m20 := ⟨List.mem_of_getElem? (i := 172) rfl, List.mem_of_getElem? (i := 173) rfl, List.mem_of_getElem? (i := 174) rfl, List.mem_of_getElem? (i := 175) rfl, rfl, rfl⟩
theorem lk_0_87 : LinkP PP "ShadowRedzoneY" 87 m21 := ⟨List.mem_of_getElem? (i := 180) rfl, List.mem_of_getElem? (i := 181) rfl, List.mem_of_getElem? (i := 182) rfl, List.mem_of_getElem? (i := 183) rfl, rfl, rfl⟩
theorem lk_0_91 : LinkP PP "ShadowRedzoneY" 91 m22 := ⟨List.mem_of_getElem? (i := 184) rfl, List.mem_of_getElem? (i := 185) rfl, List.mem_of_getElem? (i := 186) rfl, List.mem_of_getElem? (i := 187) rfl, rfl, rfl⟩
theorem lk_0_95 : LinkP PP "ShadowRedzoneY" 95 m28 := ⟨List.mem_of_getElem? (i := 188) rfl, List.mem_of_getElem? (i := 189) rfl, List.mem_of_getElem? (i := 190) rfl, List.mem_of_getElem? (i := 191) rfl, rfl, rfl⟩
theorem lk_0_98 : LinkP PP "ShadowRedzoneY" 98 m33 := ⟨List.mem_of_getElem? (i := 151) rfl, List.mem_of_getElem? (i := 152) rfl, List.mem_of_getElem? (i := 153) rfl, List.mem_of_getElem? (i := 154) rfl, rfl, rfl⟩
theorem lk_0_101 : LinkP PP "ShadowRedzoneY" 101 m11 := ⟨List.mem_of_getElem? (i := 235) rfl, List.mem_of_getElem? (i := 236) rfl, List.mem_of_getElem? (i := 237) rfl, List.mem_of_getElem? (i := 238) rfl, rfl, rfl⟩
theorem lk_0_105 : LinkP PP "ShadowRedzoneY" 105 m34 := ⟨List.mem_of_getElem? (i := 225) rfl, List.mem_of_getElem? (i := 226) rfl, List.mem_of_getElem? (i := 227) rfl, List.mem_of_getElem? (i := 228) rfl, rfl, rfl⟩
theorem lk_0_108 : LinkP PP "ShadowRedzoneY" 108 m39 := ⟨List.mem_of_getElem? (i := 239) rfl, List.mem_of_getElem? (i := 240) rfl, List.mem_of_getElem? (i := 241) rfl, List.mem_of_getElem? (i := 242) rfl, rfl, rfl⟩
theorem lk_0_112 : LinkP PP "ShadowRedzoneY" 112 m40 := ⟨List.mem_of_getElem? (i := 255) rfl, List.mem_of_getElem? (i := 256) rfl, List.mem_of_getElem? (i := 257) rfl, List.mem_of_getElem? (i := 258) rfl, rfl, rfl⟩
theorem lk_0_115 : LinkP PP "ShadowRedzoneY" 115 m45 := ⟨List.mem_of_getElem? (i := 86) rfl, List.mem_of_getElem? (i := 87) rfl, List.mem_of_getElem? (i := 88) rfl, List.mem_of_getElem? (i := 89) rfl, rfl, rfl⟩
theorem lk_0_118 : LinkP PP "ShadowRedzoneY" 118 m49 := ⟨List.mem_of_getElem? (i := 90) rfl, List.mem_of_getElem? (i := 91) rfl, List.mem_of_getElem? (i := 92) rfl, List.mem_of_getElem? (i := 93) rfl, rfl, rfl⟩
theorem lk_0_122 : LinkP PP "ShadowRedzoneY" 122 m50 := ⟨List.mem_of_getElem? (i := 274) rfl, List.mem_of_getElem? (i := 275) rfl, List.mem_of_getElem? (i := 276) rfl, List.mem_of_getElem? (i := 277) rfl, rfl, rfl⟩
theorem lk_0_126 : LinkP PP "ShadowRedzoneY" 126 m52 := ⟨List.mem_of_getElem? (i := 269) rfl, List.mem_of_getElem? (i := 270) rfl, List.mem_of_getElem? (i := 271) rfl, List.mem_of_getElem? (i := 272) rfl, rfl, rfl⟩
theorem lk_0_139 : LinkP PP "ShadowRedzoneY" 139 m9 := ⟨List.mem_of_getElem? (i := 155) rfl, List.mem_of_getElem? (i := 156) rfl, List.mem_of_getElem? (i := 157) rfl, List.mem_of_getElem? (i := 158) rfl, rfl, rfl⟩
theorem lk_0_142 : LinkP PP "ShadowRedzoneY" 142 m26 := ⟨List.mem_of_getElem? (i := 216) rfl, List.mem_of_getElem? (i := 217) rfl, List.mem_of_getElem? (i := 218) rfl, List.mem_of_getElem? (i := 219) rfl, rfl, rfl⟩
theorem lk_0_148 : LinkP PP "ShadowRedzoneY" 148 m6 := ⟨List.mem_of_getElem? (i := 168) rfl, List.mem_of_getElem? (i := 169) rfl, List.mem_of_getElem? (i := 170) rfl, List.mem_of_getElem? (i := 171) rfl, rfl, rfl⟩
theorem lk_0_151 : LinkP PP "ShadowRedzoneY" 151 m23 := ⟨List.mem_of_getElem? (i := 200) rfl, List.mem_of_getElem? (i := 201) rfl, List.mem_of_getElem? (i := 202) rfl, List.mem_of_getElem? (i := 203) rfl, rfl, rfl⟩
theorem lk_0_154 : LinkP PP "ShadowRedzoneY" 154 m24 := ⟨List.mem_of_getElem? (i := 204) rfl, List.mem_of_getElem? (i := 205) rfl, List.mem_of_getElem? (i := 206) rfl, List.mem_of_getElem? (i := 207) rfl, rfl, rfl⟩
theorem lk_0_157 : LinkP PP "ShadowRedzoneY" 157 m12 := ⟨List.mem_of_getElem? (i := 208) rfl, List.mem_of_getElem? (i := 209) rfl, List.mem_of_getElem? (i := 210) rfl, List.mem_of_getElem? (i := 211) rfl, rfl, rfl⟩
theorem lk_0_161 : LinkP PP "ShadowRedzoneY" 161 m13 := ⟨List.mem_of_getElem? (i := 192) rfl, List.mem_of_getElem? (i := 193) rfl, List.mem_of_getElem? (i := 194) rfl, List.mem_of_getElem? (i := 195) rfl, rfl, rfl⟩
theorem lk_0_164 : LinkP PP "ShadowRedzoneY" 164 m25 := ⟨List.mem_of_getElem? (i := 196) rfl, List.mem_of_getElem? (i := 197) rfl, List.mem_of_getElem? (i := 198) rfl, List.mem_of_getElem? (i := 199) rfl, rfl, rfl⟩
theorem lk_0_167 : LinkP PP "ShadowRedzoneY" 167 m27 := ⟨List.mem_of_getElem? (i := 212) rfl, List.mem_of_getElem? (i := 213) rfl, List.mem_of_getElem? (i := 214) rfl, List.mem_of_getElem? (i := 215) rfl, rfl, rfl⟩
theorem lk_0_170 : LinkP PP "ShadowRedzoneY" 170 m37 := ⟨List.mem_of_getElem? (i := 243) rfl, List.mem_of_getElem? (i := 244) rfl, List.mem_of_getElem? (i := 245) rfl, List.mem_of_getElem? (i := 246) rfl, rfl, rfl⟩
theorem lk_0_173 : LinkP PP "ShadowRedzoneY" 173 m38 := ⟨List.mem_of_getElem? (i := 247) rfl, List.mem_of_getElem? (i := 248) rfl, List.mem_of_getElem? (i := 249) rfl, List.mem_of_getElem? (i := 250) rfl, rfl, rfl⟩
theorem lk_0_176 : LinkP PP "ShadowRedzoneY" 176 m17 := ⟨List.mem_of_getElem? (i := 286) rfl, List.mem_of_getElem? (i := 287) rfl, List.mem_of_getElem? (i := 288) rfl, List.mem_of_getElem? (i := 289) rfl, rfl, rfl⟩
theorem lk_0_179 : LinkP PP "ShadowRedzoneY" 179 m19 := ⟨List.mem_of_getElem? (i := 278) rfl, List.mem_of_getElem? (i := 279) rfl, List.mem_of_getElem? (i := 280) rfl, List.mem_of_getElem? (i := 281) rfl, rfl, rfl⟩
theorem lk_0_182 : LinkP PP "ShadowRedzoneY" 182 m10 := ⟨List.mem_of_getElem? (i := 251) rfl, List.mem_of_getElem? (i := 252) rfl, List.mem_of_getElem? (i := 253) rfl, List.mem_of_getElem? (i := 254) rfl, rfl, rfl⟩
theorem lk_0_185 : LinkP PP "ShadowRedzoneY" 185 m18 := ⟨List.mem_of_getElem? (i := 282) rfl, List.mem_of_getElem? (i := 283) rfl, List.mem_of_getElem? (i := 284) rfl, List.mem_of_getElem? (i := 285) rfl, rfl, rfl⟩
theorem lk_0_188 : LinkP PP "ShadowRedzoneY" 188 m8 := ⟨List.mem_of_getElem? (i := 176) rfl, List.mem_of_getElem? (i := 177) rfl, List.mem_of_getElem? (i := 178) rfl, List.mem_of_getElem? (i := 179) rfl, rfl, rfl⟩
theorem lk_0_191 : LinkP PP "ShadowRedzoneY" 191 m15 := ⟨List.mem_of_getElem? (i := 298) rfl, List.mem_of_getElem? (i := 299) rfl, List.mem_of_getElem? (i := 300) rfl, List.mem_of_getElem? (i := 301) rfl, rfl, rfl⟩
theorem lk_0_194 : LinkP PP "ShadowRedzoneY" 194 m14 := ⟨List.mem_of_getElem? (i := 290) rfl, List.mem_of_getElem? (i := 291) rfl, List.mem_of_getElem? (i := 292) rfl, List.mem_of_getElem? (i := 293) rfl, rfl, rfl⟩
theorem lk_0_197 : LinkP PP "ShadowRedzoneY" 197 m16 := ⟨List.mem_of_getElem? (i := 294) rfl, List.mem_of_getElem? (i := 295) rfl, List.mem_of_getElem? (i := 296) rfl, List.mem_of_getElem? (i := 297) rfl, rfl, rfl⟩
theorem lk_0_200 : LinkP PP "ShadowRedzoneY" 200 m47 := ⟨List.mem_of_getElem? (i := 94) rfl, List.mem_of_getElem? (i := 95) rfl, List.mem_of_getElem? (i := 96) rfl, List.mem_of_getElem? (i := 97) rfl, rfl, rfl⟩
theorem lk_0_203 : LinkP PP "ShadowRedzoneY" 203 m48 := ⟨List.mem_of_getElem? (i := 102) rfl, List.mem_of_getElem? (i := 103) rfl, List.mem_of_getElem? (i := 104) rfl, List.mem_of_getElem? (i := 105) rfl, rfl, rfl⟩
theorem lk_0_206 : LinkP PP "ShadowRedzoneY" 206 m46 := ⟨List.mem_of_getElem? (i := 98) rfl, List.mem_of_getElem? (i := 99) rfl, List.mem_of_getElem? (i := 100) rfl, List.mem_of_getElem? (i := 101) rfl, rfl, rfl⟩
theorem lk_1_10 : LinkI PP "ShadowRedzoneYL6" 10 m5 := ⟨List.mem_of_getElem? (i := 3) rfl, List.mem_of_getElem? (i := 4) rfl, List.mem_of_getElem? (i := 5) rfl, rfl, rfl, rfl, rfl⟩
theorem lk_1_13 : LinkV PP "ShadowRedzoneYL6" 13 m29 := ⟨List.mem_of_getElem? (i := 159) rfl, List.mem_of_getElem? (i := 160) rfl, List.mem_of_getElem? (i := 162) rfl, List.mem_of_getElem? (i := 161) rfl, List.mem_of_getElem? (i := 163) rfl, rfl, rfl⟩
theorem lk_1_17 : LinkV PP "ShadowRedzoneYL6" 17 m30 := ⟨List.mem_of_getElem? (i := 111) rfl, List.mem_of_getElem? (i := 112) rfl, List.mem_of_getElem? (i := 114) rfl, List.mem_of_getElem? (i := 113) rfl, List.mem_of_getElem? (i := 115) rfl, rfl, rfl⟩
theorem lk_1_21 : LinkV PP "ShadowRedzoneYL6" 21 m31 := ⟨List.mem_of_getElem? (i := 116) rfl, List.mem_of_getElem? (i := 117) rfl, List.mem_of_getElem? (i := 119) rfl, List.mem_of_getElem? (i := 118) rfl, List.mem_of_getElem? (i := 120) rfl, rfl, rfl⟩
theorem lk_1_24 : LinkV PP "ShadowRedzoneYL6" 24 m32 := ⟨List.mem_of_getElem? (i := 136) rfl, List.mem_of_getElem? (i := 137) rfl, List.mem_of_getElem? (i := 139) rfl, List.mem_of_getElem? (i := 138) rfl, List.mem_of_getElem? (i := 140) rfl, rfl, rfl⟩
theorem lk_1_27 : LinkV PP "ShadowRedzoneYL6" 27 m35 := ⟨List.mem_of_getElem? (i := 220) rfl, List.mem_of_getElem? (i := 221) rfl, List.mem_of_getElem? (i := 223) rfl, List.mem_of_getElem? (i := 222) rfl, List.mem_of_getElem? (i := 224) rfl, rfl, rfl⟩
theorem lk_1_30 : LinkV PP "ShadowRedzoneYL6" 30 m36 := ⟨List.mem_of_getElem? (i := 229) rfl, List.mem_of_getElem? (i := 230) rfl, List.mem_of_getElem? (i := 232) rfl, List.mem_of_getElem? (i := 231) rfl, List.mem_of_getElem? (i := 233) rfl, rfl, rfl⟩
theorem lk_1_33 : LinkV PP "ShadowRedzoneYL6" 33 m41 := ⟨List.mem_of_getElem? (i := 146) rfl, List.mem_of_getElem? (i := 147) rfl, List.mem_of_getElem? (i := 149) rfl, List.mem_of_getElem? (i := 148) rfl, List.mem_of_getElem? (i := 150) rfl, rfl, rfl⟩
theorem lk_1_36 : LinkV PP "ShadowRedzoneYL6" 36 m42 := ⟨List.mem_of_getElem? (i := 259) rfl, List.mem_of_getElem? (i := 260) rfl, List.mem_of_getElem? (i := 262) rfl, List.mem_of_getElem? (i := 261) rfl, List.mem_of_getElem? (i := 263) rfl, rfl, rfl⟩
theorem lk_1_39 : LinkS PP "ShadowRedzoneYL6" 39 m43 := ⟨List.mem_of_getElem? (i := 73) rfl, List.mem_of_getElem? (i := 74) rfl, List.mem_of_getElem? (i := 75) rfl, List.mem_of_getElem? (i := 76) rfl, by decide⟩
theorem lk_1_44 : LinkS PP "ShadowRedzoneYL6" 44 m44 := ⟨List.mem_of_getElem? (i := 77) rfl, List.mem_of_getElem? (i := 78) rfl, List.mem_of_getElem? (i := 75) rfl, List.mem_of_getElem? (i := 79) rfl, by decide⟩
theorem lk_1_48 : LinkV PP "ShadowRedzoneYL6" 48 m51 := ⟨List.mem_of_getElem? (i := 264) rfl, List.mem_of_getElem? (i := 265) rfl, List.mem_of_getElem? (i := 267) rfl, List.mem_of_getElem? (i := 266) rfl, List.mem_of_getElem? (i := 268) rfl, rfl, rfl⟩
theorem lk_1_53 : LinkV PP "ShadowRedzoneYL6" 53 m53 := ⟨List.mem_of_getElem? (i := 81) rfl, List.mem_of_getElem? (i := 82) rfl, List.mem_of_getElem? (i := 84) rfl, List.mem_of_getElem? (i := 83) rfl, List.mem_of_getElem? (i := 85) rfl, rfl, rfl⟩
theorem lk_1_57 : LinkV PP "ShadowRedzoneYL6" 57 m54 := ⟨List.mem_of_getElem? (i := 131) rfl, List.mem_of_getElem? (i := 132) rfl, List.mem_of_getElem? (i := 134) rfl, List.mem_of_getElem? (i := 133) rfl, List.mem_of_getElem? (i := 135) rfl, rfl, rfl⟩
theorem lk_1_61 : LinkV PP "ShadowRedzoneYL6" 61 m55 := ⟨List.mem_of_getElem? (i := 106) rfl, List.mem_of_getElem? (i := 107) rfl, List.mem_of_getElem? (i := 109) rfl, List.mem_of_getElem? (i := 108) rfl, List.mem_of_getElem? (i := 110) rfl, rfl, rfl⟩
theorem lk_1_64 : LinkV PP "ShadowRedzoneYL6" 64 m56 := ⟨List.mem_of_getElem? (i := 121) rfl, List.mem_of_getElem? (i := 122) rfl, List.mem_of_getElem? (i := 124) rfl, List.mem_of_getElem? (i := 123) rfl, List.mem_of_getElem? (i := 125) rfl, rfl, rfl⟩
theorem lk_1_67 : LinkV PP "ShadowRedzoneYL6" 67 m57 := ⟨List.mem_of_getElem? (i := 126) rfl, List.mem_of_getElem? (i := 127) rfl, List.mem_of_getElem? (i := 129) rfl, List.mem_of_getElem? (i := 128) rfl, List.mem_of_getElem? (i := 130) rfl, rfl, rfl⟩
theorem lk_1_70 : LinkV PP "ShadowRedzoneYL6" 70 m58 := ⟨List.mem_of_getElem? (i := 141) rfl, List.mem_of_getElem? (i := 142) rfl, List.mem_of_getElem? (i := 144) rfl, List.mem_of_getElem? (i := 143) rfl, List.mem_of_getElem? (i := 145) rfl, rfl, rfl⟩
theorem facts1 {Z : State} {a0 : Array Value} (hw : ∀ d ∈ tables_1, d.before a0 Z = true) : Facts Z a0 ci1 := by
  refine ⟨hw _ (List.mem_of_getElem? (i := 1) rfl), hw _ (List.mem_of_getElem? (i := 2) rfl), ?_, ?_, by decide, ?_, by decide⟩
  · intro f x hx
    match f, hx with
    | 0, hx => cases hx; exact ⟨Or.inl (hw _ (List.mem_of_getElem? (i := 34) rfl)), by decide⟩
    | 1, hx => cases hx; exact ⟨Or.inl (hw _ (List.mem_of_getElem? (i := 36) rfl)), by decide⟩
    | 2, hx => cases hx; exact ⟨Or.inl (hw _ (List.mem_of_getElem? (i := 38) rfl)), by decide⟩
    | 3, hx => cases hx; exact ⟨Or.inl (hw _ (List.mem_of_getElem? (i := 40) rfl)), by decide⟩
    | 4, hx => cases hx; exact ⟨Or.inl (hw _ (List.mem_of_getElem? (i := 54) rfl)), by decide⟩
    | 5, hx => cases hx; exact ⟨Or.inl (hw _ (List.mem_of_getElem? (i := 56) rfl)), by decide⟩
    | 6, hx => cases hx; exact ⟨Or.inl (hw _ (List.mem_of_getElem? (i := 58) rfl)), by decide⟩
    | 7, hx => cases hx; exact ⟨Or.inl (hw _ (List.mem_of_getElem? (i := 64) rfl)), by decide⟩
    | 8, hx => cases hx; exact ⟨Or.inl (hw _ (List.mem_of_getElem? (i := 66) rfl)), by decide⟩
    | 9, hx => cases hx; exact ⟨Or.inl (hw _ (List.mem_of_getElem? (i := 68) rfl)), by decide⟩
    | 10, hx => cases hx; exact ⟨Or.inl (hw _ (List.mem_of_getElem? (i := 70) rfl)), by decide⟩
    | 11, hx => cases hx; exact ⟨Or.inl (hw _ (List.mem_of_getElem? (i := 72) rfl)), by decide⟩
    | n + 12, hx => simp [cS, ci1] at hx
  · intro q x hx
    match q, hx with
    | 0, hx => cases hx; exact ⟨Or.inr (hw _ (List.mem_of_getElem? (i := 11) rfl)), by decide⟩
    | 1, hx => cases hx; exact ⟨Or.inr (hw _ (List.mem_of_getElem? (i := 14) rfl)), by decide⟩
    | 2, hx => cases hx; exact ⟨Or.inr (hw _ (List.mem_of_getElem? (i := 16) rfl)), by decide⟩
    | 3, hx => cases hx; exact ⟨Or.inr (hw _ (List.mem_of_getElem? (i := 18) rfl)), by decide⟩
    | 4, hx => cases hx; exact ⟨Or.inr (hw _ (List.mem_of_getElem? (i := 20) rfl)), by decide⟩
    | 5, hx => cases hx; exact ⟨Or.inr (hw _ (List.mem_of_getElem? (i := 22) rfl)), by decide⟩
    | 6, hx => cases hx; exact ⟨Or.inr (hw _ (List.mem_of_getElem? (i := 24) rfl)), by decide⟩
    | 7, hx => cases hx; exact ⟨Or.inr (hw _ (List.mem_of_getElem? (i := 26) rfl)), by decide⟩
    | 8, hx => cases hx; exact ⟨Or.inr (hw _ (List.mem_of_getElem? (i := 28) rfl)), by decide⟩
    | n + 9, hx => simp [cA, ci1] at hx
  · intro f x hx
    match f, hx with
    | 0, hx => cases hx; rfl
    | 1, hx => cases hx; rfl
    | 2, hx => cases hx; rfl
    | 3, hx => cases hx; rfl
    | 4, hx => cases hx; rfl
    | 5, hx => cases hx; rfl
    | 6, hx => cases hx; rfl
    | 7, hx => cases hx; rfl
    | 8, hx => cases hx; rfl
    | 9, hx => cases hx; rfl
    | 10, hx => cases hx; rfl
    | 11, hx => cases hx; rfl
    | n + 12, hx => simp [cS, ci1] at hx
def k_clamp  (v1 : Int32) (v2 : Int32) (v3 : Int32)  : Int32 :=
  if v1 < v2 then
    v2
  else
    if v3 < v1 then
      v3
    else
      v1
def k_resetArena_32  : Nat → Int32 → S → Option S
  | 0, _, _ => none
  | n + 1, v1, s =>
    if v1 < (256 : Int32) then
      (Jvm.AM.st (gA s 0) v1 (nar .byte (0 : Int32))).bind fun a45 =>
      k_resetArena_32 n (v1 + (1 : Int32)) (sA s 0 a45)
    else
      some s
def k_resetArena_30   (s : S) : Option S :=
  k_resetArena_32 BIG (0 : Int32) s
def k_resetArena_2  : Nat → Int32 → S → Option S
  | 0, _, _ => none
  | n + 1, v1, s =>
    if v1 < (32 : Int32) then
      (Jvm.AM.st (gA s 1) v1 (254 : Int32)).bind fun a16 =>
      (Jvm.AM.st (gA s 2) v1 (-1 : Int32)).bind fun a23 =>
      k_resetArena_2 n (v1 + (1 : Int32)) (sA (sA s 1 a16) 2 a23)
    else
      k_resetArena_30 s
def k_resetArena   (s : S) : Option S :=
  k_resetArena_2 BIG (0 : Int32) s
def k_resetChunks_2  : Nat → Int32 → S → Option S
  | 0, _, _ => none
  | n + 1, v1, s =>
    if v1 < (32 : Int32) then
      (Jvm.AM.st (gA s 5) v1 (nar .byte (0 : Int32))).bind fun a14 =>
      (Jvm.AM.st (gA s 3) v1 (0 : Int32)).bind fun a21 =>
      (Jvm.AM.st (gA s 4) v1 (0 : Int32)).bind fun a28 =>
      k_resetChunks_2 n (v1 + (1 : Int32)) (sA (sA (sA s 5 a14) 3 a21) 4 a28)
    else
      some s
def k_resetChunks   (s : S) : Option S :=
  k_resetChunks_2 BIG (0 : Int32) s
def k_resetQuarantine_21   (s : S) : Option S :=
  some (sI (sI (sI s 4 (0 : Int32)) 5 (0 : Int32)) 6 (0 : Int32))
def k_resetQuarantine_2  : Nat → Int32 → S → Option S
  | 0, _, _ => none
  | n + 1, v1, s =>
    if v1 < (32 : Int32) then
      (Jvm.AM.st (gA s 6) v1 (-1 : Int32)).bind fun a14 =>
      k_resetQuarantine_2 n (v1 + (1 : Int32)) (sA s 6 a14)
    else
      k_resetQuarantine_21 s
def k_resetQuarantine   (s : S) : Option S :=
  k_resetQuarantine_2 BIG (0 : Int32) s
def k_resetRuns_28   (s : S) : Option S :=
  (Jvm.AM.st (gA s 7) (0 : Int32) (0 : Int32)).bind fun a34 =>
  (Jvm.AM.st (gA s 8) (0 : Int32) (gI s 0)).bind fun a44 =>
  some (sI (sA (sA s 7 a34) 8 a44) 7 (1 : Int32))
def k_resetRuns_2  : Nat → Int32 → S → Option S
  | 0, _, _ => none
  | n + 1, v1, s =>
    if v1 < (32 : Int32) then
      (Jvm.AM.st (gA s 7) v1 (0 : Int32)).bind fun a14 =>
      (Jvm.AM.st (gA s 8) v1 (0 : Int32)).bind fun a21 =>
      k_resetRuns_2 n (v1 + (1 : Int32)) (sA (sA s 7 a14) 8 a21)
    else
      k_resetRuns_28 s
def k_resetRuns   (s : S) : Option S :=
  k_resetRuns_2 BIG (0 : Int32) s
def k_init  (v1 : Int32) (v2 : Int32) (v3 : Int32)  : Option S :=
  (k_resetArena (sI (sI (sI (sI (sA (sA (sA (sA (sA (sA (sA (sA (sA s0 0 (rep 256 0)) 1 (rep 32 0)) 2 (rep 32 0)) 3 (rep 32 0)) 4 (rep 32 0)) 5 (rep 32 0)) 6 (rep 32 0)) 7 (rep 32 0)) 8 (rep 32 0)) 0 (k_clamp v1 (8 : Int32) (32 : Int32))) 1 (k_clamp v2 (1 : Int32) (3 : Int32))) 2 (k_clamp v3 (0 : Int32) (256 : Int32))) 3 ((8 : Int32) * (k_clamp v1 (8 : Int32) (32 : Int32))))).bind fun r126 =>
  (k_resetChunks r126).bind fun r130 =>
  (k_resetQuarantine r130).bind fun r134 =>
  (k_resetRuns r134).bind fun r138 =>
  some (sI (sI (sL (sI r138 8 (0 : Int32)) 9 (0 : Int64)) 10 (0 : Int32)) 11 (0 : Int32))
def k_userGranulesFor  (v1 : Int32)  : Option Int32 :=
  some ((v1 + (7 : Int32)) / (8 : Int32))
def k_spanFor  (v1 : Int32) (s : S) : Option Int32 :=
  (k_userGranulesFor v1).bind fun r8 =>
  some (((2 : Int32) * (gI s 1)) + r8)
def k_findFitRun_2  : Nat → Int32 → Int32 → S → Option Int32
  | 0, _, _, _ => none
  | n + 1, v1, v2, s =>
    if v2 < (gI s 7) then
      if v2 < (32 : Int32) then
        (ix (gA s 8) v2).bind fun a21 =>
        if a21 < v1 then
          k_findFitRun_2 n v1 (v2 + (1 : Int32)) s
        else
          some v2
      else
        some (-1 : Int32)
    else
      some (-1 : Int32)
def k_findFitRun  (v1 : Int32) (s : S) : Option Int32 :=
  k_findFitRun_2 BIG v1 (0 : Int32) s
def k_validSlot  (v1 : Int32)  : Int32 :=
  if v1 < 0 then
    (0 : Int32)
  else
    if v1 < (32 : Int32) then
      (1 : Int32)
    else
      (0 : Int32)
def k_weightOf  (v1 : Int32) (s : S) : Option Int32 :=
  if (k_validSlot v1) = 0 then
    some (0 : Int32)
  else
    (ix (gA s 4) v1).bind fun a15 =>
    (k_spanFor a15 s).bind fun r21 =>
    some ((8 : Int32) * r21)
def k_isQuarantined  (v1 : Int32) (s : S) : Option Int32 :=
  if (k_validSlot v1) = 0 then
    some (0 : Int32)
  else
    (ix (gA s 5) v1).bind fun a13 =>
    if a13 = (2 : Int32) then
      some (1 : Int32)
    else
      some (0 : Int32)
def k_paintRange_3  : Nat → Int32 → Int32 → Int32 → Int32 → S → Option S
  | 0, _, _, _, _, _ => none
  | n + 1, v1, v2, v3, v4, s =>
    if v4 < v2 then
      if v4 < (32 : Int32) then
        if (v1 + v4) < 0 then
          k_paintRange_3 n v1 v2 v3 (v4 + (1 : Int32)) s
        else
          if (v1 + v4) < (gI s 0) then
            (Jvm.AM.st (gA s 1) (v1 + v4) v3).bind fun a43 =>
            k_paintRange_3 n v1 v2 v3 (v4 + (1 : Int32)) (sA s 1 a43)
          else
            k_paintRange_3 n v1 v2 v3 (v4 + (1 : Int32)) s
      else
        some s
    else
      some s
def k_paintRange  (v1 : Int32) (v2 : Int32) (v3 : Int32) (s : S) : Option S :=
  k_paintRange_3 BIG v1 v2 v3 (0 : Int32) s
def k_setOwner_3  : Nat → Int32 → Int32 → Int32 → Int32 → S → Option S
  | 0, _, _, _, _, _ => none
  | n + 1, v1, v2, v3, v4, s =>
    if v4 < v2 then
      if v4 < (32 : Int32) then
        if (v1 + v4) < 0 then
          k_setOwner_3 n v1 v2 v3 (v4 + (1 : Int32)) s
        else
          if (v1 + v4) < (gI s 0) then
            (Jvm.AM.st (gA s 2) (v1 + v4) v3).bind fun a43 =>
            k_setOwner_3 n v1 v2 v3 (v4 + (1 : Int32)) (sA s 2 a43)
          else
            k_setOwner_3 n v1 v2 v3 (v4 + (1 : Int32)) s
      else
        some s
    else
      some s
def k_setOwner  (v1 : Int32) (v2 : Int32) (v3 : Int32) (s : S) : Option S :=
  k_setOwner_3 BIG v1 v2 v3 (0 : Int32) s
def k_runInsertPosition_2  : Nat → Int32 → Int32 → S → Option Int32
  | 0, _, _, _ => none
  | n + 1, v1, v2, s =>
    if v2 < (gI s 7) then
      if v2 < (32 : Int32) then
        (ix (gA s 7) v2).bind fun a21 =>
        if v1 < a21 then
          some v2
        else
          k_runInsertPosition_2 n v1 (v2 + (1 : Int32)) s
      else
        some (gI s 7)
    else
      some (gI s 7)
def k_runInsertPosition  (v1 : Int32) (s : S) : Option Int32 :=
  k_runInsertPosition_2 BIG v1 (0 : Int32) s
def k_removeRun_65   (s : S) : Option S :=
  some (sI s 7 ((gI s 7) - (1 : Int32)))
def k_removeRun_15  : Nat → Int32 → S → Option S
  | 0, _, _ => none
  | n + 1, v2, s =>
    if v2 < ((gI s 7) - (1 : Int32)) then
      if v2 < (31 : Int32) then
        (ix (gA s 7) (v2 + (1 : Int32))).bind fun a43 =>
        (Jvm.AM.st (gA s 7) v2 a43).bind fun a44 =>
        (ix (gA s 8) (v2 + (1 : Int32))).bind fun a57 =>
        (Jvm.AM.st (gA s 8) v2 a57).bind fun a58 =>
        k_removeRun_15 n (v2 + (1 : Int32)) (sA (sA s 7 a44) 8 a58)
      else
        k_removeRun_65 s
    else
      k_removeRun_65 s
def k_removeRun  (v1 : Int32) (s : S) : Option S :=
  if v1 < 0 then
    some s
  else
    if v1 < (gI s 7) then
      k_removeRun_15 BIG v1 s
    else
      some s
def k_insertRun_77  (v1 : Int32) (v2 : Int32) (v3 : Int32) (s : S) : Option S :=
  (Jvm.AM.st (gA s 7) v1 v2).bind fun a83 =>
  (Jvm.AM.st (gA s 8) v1 v3).bind fun a90 =>
  some (sI (sA (sA s 7 a83) 8 a90) 7 ((gI s 7) + (1 : Int32)))
def k_insertRun_28  : Nat → Int32 → Int32 → Int32 → Int32 → S → Option S
  | 0, _, _, _, _, _ => none
  | n + 1, v1, v2, v3, v4, s =>
    if v1 < v4 then
      if 0 < v4 then
        (ix (gA s 7) (v4 - (1 : Int32))).bind fun a53 =>
        (Jvm.AM.st (gA s 7) v4 a53).bind fun a54 =>
        (ix (gA s 8) (v4 - (1 : Int32))).bind fun a69 =>
        (Jvm.AM.st (gA s 8) v4 a69).bind fun a70 =>
        k_insertRun_28 n v1 v2 v3 (v4 + (-1 : Int32)) (sA (sA s 7 a54) 8 a70)
      else
        k_insertRun_77 v1 v2 v3 s
    else
      k_insertRun_77 v1 v2 v3 s
def k_insertRun  (v1 : Int32) (v2 : Int32) (v3 : Int32) (s : S) : Option S :=
  if (gI s 7) < (32 : Int32) then
    if v1 < 0 then
      some s
    else
      if (gI s 7) < v1 then
        some s
      else
        k_insertRun_28 BIG v1 v2 v3 (gI s 7) s
  else
    some s
def k_releaseRange_102  (v1 : Int32) (v2 : Int32) (v3 : Int32) (v4 : Int32) (v5 : Int32) (s : S) : Option S :=
  if v4 = 0 then
    if v5 = 0 then
      (k_insertRun v3 v1 v2 s).bind fun r151 =>
      some r151
    else
      (Jvm.AM.st (gA s 7) v3 v1).bind fun a133 =>
      (ix (gA s 8) v3).bind fun a140 =>
      (Jvm.AM.st (gA s 8) v3 (a140 + v2)).bind fun a143 =>
      some (sA (sA s 7 a133) 8 a143)
  else
    (ix (gA s 8) (v3 - (1 : Int32))).bind fun a115 =>
    (Jvm.AM.st (gA s 8) (v3 - (1 : Int32)) (a115 + v2)).bind fun a118 =>
    some (sA s 8 a118)
def k_releaseRange_63  (v1 : Int32) (v2 : Int32) (v3 : Int32) (v4 : Int32) (p0 : Int32) (s : S) : Option S :=
  if v4 = 0 then
    k_releaseRange_102 v1 v2 v3 v4 p0 s
  else
    if p0 = 0 then
      k_releaseRange_102 v1 v2 v3 v4 p0 s
    else
      (ix (gA s 8) (v3 - (1 : Int32))).bind fun a83 =>
      (ix (gA s 8) v3).bind fun a90 =>
      (Jvm.AM.st (gA s 8) (v3 - (1 : Int32)) (a83 + (v2 + a90))).bind fun a93 =>
      (k_removeRun v3 (sA s 8 a93)).bind fun r96 =>
      some r96
def k_releaseRange_62  (v1 : Int32) (v2 : Int32) (v3 : Int32) (v4 : Int32) (s : S) : Option S :=
  k_releaseRange_63 v1 v2 v3 v4 (0 : Int32) s
def k_releaseRange_36  (v1 : Int32) (v2 : Int32) (v3 : Int32) (p0 : Int32) (s : S) : Option S :=
  if v3 < (gI s 7) then
    (ix (gA s 7) v3).bind fun a54 =>
    k_releaseRange_63 v1 v2 v3 p0 (if (v1 + v2) = a54 then (1 : Int32) else (0 : Int32)) s
  else
    k_releaseRange_62 v1 v2 v3 p0 s
def k_releaseRange_35  (v1 : Int32) (v2 : Int32) (v3 : Int32) (s : S) : Option S :=
  k_releaseRange_36 v1 v2 v3 (0 : Int32) s
def k_releaseRange  (v1 : Int32) (v2 : Int32) (s : S) : Option S :=
  (k_runInsertPosition v1 s).bind fun r2 =>
  if 0 < r2 then
    (ix (gA s 7) (r2 - (1 : Int32))).bind fun a17 =>
    (ix (gA s 8) (r2 - (1 : Int32))).bind fun a25 =>
    k_releaseRange_36 v1 v2 r2 (if (a17 + a25) = v1 then (1 : Int32) else (0 : Int32)) s
  else
    k_releaseRange_35 v1 v2 r2 s
def k_destroyChunk  (v1 : Int32) (s : S) : Option S :=
  if (k_validSlot v1) = 0 then
    some s
  else
    (ix (gA s 3) v1).bind fun a14 =>
    (ix (gA s 4) v1).bind fun a21 =>
    (k_spanFor a21 s).bind fun r25 =>
    (k_paintRange a14 r25 (254 : Int32) s).bind fun r37 =>
    (k_setOwner a14 r25 (-1 : Int32) r37).bind fun r45 =>
    (k_releaseRange a14 r25 r45).bind fun r52 =>
    (Jvm.AM.st (gA r52 5) v1 (nar .byte (0 : Int32))).bind fun a61 =>
    (Jvm.AM.st (gA r52 3) v1 (0 : Int32)).bind fun a68 =>
    (Jvm.AM.st (gA r52 4) v1 (0 : Int32)).bind fun a75 =>
    some (sA (sA (sA r52 5 a61) 3 a68) 4 a75)
def k_evictOldest   (s : S) : Option S :=
  if 0 < (gI s 5) then
    (ix (gA s 6) (gI s 4)).bind fun a16 =>
    (Jvm.AM.st (gA s 6) (gI s 4) (-1 : Int32)).bind fun a27 =>
    (k_weightOf a16 (sI (sI (sA s 6 a27) 4 (((gI s 4) + (1 : Int32)) &&& (31 : Int32))) 5 ((gI s 5) - (1 : Int32)))).bind fun r58 =>
    (k_isQuarantined a16 (sI (sI (sI (sA s 6 a27) 4 (((gI s 4) + (1 : Int32)) &&& (31 : Int32))) 5 ((gI s 5) - (1 : Int32))) 6 ((gI s 6) - r58))).bind fun r67 =>
    if r67 = 0 then
      some (sI (sI (sI (sA s 6 a27) 4 (((gI s 4) + (1 : Int32)) &&& (31 : Int32))) 5 ((gI s 5) - (1 : Int32))) 6 ((gI s 6) - r58))
    else
      (k_destroyChunk a16 (sI (sI (sI (sA s 6 a27) 4 (((gI s 4) + (1 : Int32)) &&& (31 : Int32))) 5 ((gI s 5) - (1 : Int32))) 6 ((gI s 6) - r58))).bind fun r75 =>
      some r75
  else
    some s
def k_findRoom_8  : Nat → Int32 → Int32 → Int32 → S → Option (Int32 × S)
  | 0, _, _, _, _ => none
  | n + 1, v1, v2, v3, s =>
    if v3 < (64 : Int32) then
      if v2 < 0 then
        if 0 < (gI s 5) then
          (k_evictOldest s).bind fun r26 =>
          (k_findFitRun v1 r26).bind fun r31 =>
          k_findRoom_8 n v1 r31 (v3 + (1 : Int32)) r26
        else
          some (v2, s)
      else
        some (v2, s)
    else
      some (v2, s)
def k_findRoom  (v1 : Int32) (s : S) : Option (Int32 × S) :=
  (k_findFitRun v1 s).bind fun r2 =>
  k_findRoom_8 BIG v1 r2 (0 : Int32) s
def k_findUnusedSlot_2  : Nat → Int32 → S → Option Int32
  | 0, _, _ => none
  | n + 1, v1, s =>
    if v1 < (32 : Int32) then
      (ix (gA s 5) v1).bind fun a13 =>
      if a13 = 0 then
        some v1
      else
        k_findUnusedSlot_2 n (v1 + (1 : Int32)) s
    else
      some (-1 : Int32)
def k_findUnusedSlot   (s : S) : Option Int32 :=
  k_findUnusedSlot_2 BIG (0 : Int32) s
def k_carveFront  (v1 : Int32) (v2 : Int32) (s : S) : Option S :=
  if v1 < 0 then
    some s
  else
    if v1 < (gI s 7) then
      (ix (gA s 7) v1).bind fun a19 =>
      (Jvm.AM.st (gA s 7) v1 (a19 + v2)).bind fun a22 =>
      (ix (gA s 8) v1).bind fun a29 =>
      (Jvm.AM.st (gA s 8) v1 (a29 - v2)).bind fun a32 =>
      (ix a32 v1).bind fun a38 =>
      if 0 < a38 then
        some (sA (sA s 7 a22) 8 a32)
      else
        (k_removeRun v1 (sA (sA s 7 a22) 8 a32)).bind fun r44 =>
        some r44
    else
      some s
def k_userGranule  (v1 : Int32) (s : S) : Option Int32 :=
  if (k_validSlot v1) = 0 then
    some (-1 : Int32)
  else
    (ix (gA s 3) v1).bind fun a15 =>
    some (a15 + (gI s 1))
def k_rightGranule  (v1 : Int32) (s : S) : Option Int32 :=
  if (k_validSlot v1) = 0 then
    some (-1 : Int32)
  else
    (ix (gA s 4) v1).bind fun a15 =>
    (k_userGranule v1 s).bind fun r19 =>
    (k_userGranulesFor a15).bind fun r24 =>
    some (r19 + r24)
def k_paintLiveChunk  (v1 : Int32) (s : S) : Option S :=
  (ix (gA s 3) v1).bind fun a5 =>
  (k_userGranule v1 s).bind fun r9 =>
  (k_rightGranule v1 s).bind fun r15 =>
  (ix (gA s 4) v1).bind fun a25 =>
  (k_userGranulesFor a25).bind fun r31 =>
  (k_paintRange a5 (gI s 1) (250 : Int32) s).bind fun r45 =>
  (k_paintRange r9 r31 (0 : Int32) r45).bind fun r53 =>
  (k_paintRange r15 (gI r53 1) (251 : Int32) r53).bind fun r66 =>
  if (a25 % (8 : Int32)) = 0 then
    some r66
  else
    if ((r9 + r31) - (1 : Int32)) < 0 then
      some r66
    else
      if ((r9 + r31) - (1 : Int32)) < (gI r66 0) then
        (Jvm.AM.st (gA r66 1) ((r9 + r31) - (1 : Int32)) (a25 % (8 : Int32))).bind fun a111 =>
        some (sA r66 1 a111)
      else
        some r66
def k_userAddressOf  (v1 : Int32) (s : S) : Option Int32 :=
  (k_userGranule v1 s).bind fun r2 =>
  some ((8 : Int32) * r2)
def k_zeroRequested_16  : Nat → Int32 → Int32 → Int32 → S → Option S
  | 0, _, _, _, _ => none
  | n + 1, v2, v3, v4, s =>
    if v4 < v3 then
      if v4 < (64 : Int32) then
        if (v2 + v4) < 0 then
          k_zeroRequested_16 n v2 v3 (v4 + (1 : Int32)) s
        else
          if (v2 + v4) < (gI s 3) then
            (Jvm.AM.st (gA s 0) (v2 + v4) (nar .byte (0 : Int32))).bind fun a56 =>
            k_zeroRequested_16 n v2 v3 (v4 + (1 : Int32)) (sA s 0 a56)
          else
            k_zeroRequested_16 n v2 v3 (v4 + (1 : Int32)) s
      else
        some s
    else
      some s
def k_zeroRequested  (v1 : Int32) (s : S) : Option S :=
  (k_userAddressOf v1 s).bind fun r2 =>
  (ix (gA s 4) v1).bind fun a11 =>
  k_zeroRequested_16 BIG r2 a11 (0 : Int32) s
def k_createChunk  (v1 : Int32) (v2 : Int32) (v3 : Int32) (s : S) : Option (Int32 × S) :=
  (Jvm.AM.st (gA s 3) v1 v2).bind fun a6 =>
  (Jvm.AM.st (gA s 4) v1 v3).bind fun a13 =>
  (Jvm.AM.st (gA s 5) v1 (nar .byte (1 : Int32))).bind fun a20 =>
  (k_spanFor v3 (sA (sA (sA s 3 a6) 4 a13) 5 a20)).bind fun r23 =>
  (k_setOwner v2 r23 v1 (sA (sA (sA s 3 a6) 4 a13) 5 a20)).bind fun r33 =>
  (k_paintLiveChunk v1 r33).bind fun r38 =>
  (k_zeroRequested v1 r38).bind fun r43 =>
  (k_userAddressOf v1 (sI r43 8 ((gI r43 8) + (1 : Int32)))).bind fun r58 =>
  some (r58, sI r43 8 ((gI r43 8) + (1 : Int32)))
def k_alloc  (v1 : Int32) (s : S) : Option (Int32 × S) :=
  if v1 < (1 : Int32) then
    some ((-1 : Int32), s)
  else
    if (64 : Int32) < v1 then
      some ((-1 : Int32), s)
    else
      (k_spanFor v1 s).bind fun r15 =>
      (k_findRoom r15 s).bind fun r21 =>
      if r21.1 < 0 then
        some ((-2 : Int32), r21.2)
      else
        (k_findUnusedSlot r21.2).bind fun r33 =>
        if r33 < 0 then
          some ((-2 : Int32), r21.2)
        else
          (ix (gA r21.2 7) r21.1).bind fun a51 =>
          (k_carveFront r21.1 r15 r21.2).bind fun r57 =>
          (k_createChunk r33 a51 v1 r57).bind fun r66 =>
          some (r66.1, r66.2)
def k_quarantineCount   (s : S) : Int32 :=
  gI s 5
def k_quarantineBytes   (s : S) : Int32 :=
  gI s 6
def k_largestFreeRun_4  : Nat → Int32 → Int32 → S → Option Int32
  | 0, _, _, _ => none
  | n + 1, v1, v2, s =>
    if v2 < (gI s 7) then
      if v2 < (32 : Int32) then
        (ix (gA s 8) v2).bind fun a23 =>
        if v1 < a23 then
          (ix (gA s 8) v2).bind fun a33 =>
          k_largestFreeRun_4 n a33 (v2 + (1 : Int32)) s
        else
          k_largestFreeRun_4 n v1 (v2 + (1 : Int32)) s
      else
        some v1
    else
      some v1
def k_largestFreeRun   (s : S) : Option Int32 :=
  k_largestFreeRun_4 BIG (0 : Int32) (0 : Int32) s
def k_slotForUserAddress  (v1 : Int32) (s : S) : Option Int32 :=
  if v1 < 0 then
    some (-1 : Int32)
  else
    if v1 < (gI s 3) then
      if (v1 &&& (7 : Int32)) = 0 then
        (ix (gA s 2) (v1 >>> ((3 : Int32) &&& 31))).bind fun a32 =>
        if (k_validSlot a32) = 0 then
          some (-1 : Int32)
        else
          (ix (gA s 5) a32).bind fun a49 =>
          if a49 = 0 then
            some (-1 : Int32)
          else
            (k_userGranule a32 s).bind fun r57 =>
            if r57 = (v1 >>> ((3 : Int32) &&& 31)) then
              some a32
            else
              some (-1 : Int32)
      else
        some (-1 : Int32)
    else
      some (-1 : Int32)
def k_isLive  (v1 : Int32) (s : S) : Option Int32 :=
  if (k_validSlot v1) = 0 then
    some (0 : Int32)
  else
    (ix (gA s 5) v1).bind fun a13 =>
    if a13 = (1 : Int32) then
      some (1 : Int32)
    else
      some (0 : Int32)
def k_userSize  (v1 : Int32) (s : S) : Option Int32 :=
  (k_slotForUserAddress v1 s).bind fun r2 =>
  (k_isLive r2 s).bind fun r8 =>
  if r8 = 0 then
    some (-1 : Int32)
  else
    (ix (gA s 4) r2).bind fun a21 =>
    some a21
def k_shadow  (v1 : Int32) (s : S) : Option Int32 :=
  if v1 < 0 then
    some (-1 : Int32)
  else
    if v1 < (gI s 0) then
      (ix (gA s 1) v1).bind fun a19 =>
      some a19
    else
      some (-1 : Int32)
def k_paintQuarantined  (v1 : Int32) (s : S) : Option S :=
  (k_userGranule v1 s).bind fun r2 =>
  (ix (gA s 4) v1).bind fun a11 =>
  (k_userGranulesFor a11).bind fun r15 =>
  (k_paintRange r2 r15 (253 : Int32) s).bind fun r27 =>
  some r27
def k_enqueue_13  (v1 : Int32) (s : S) : Option S :=
  (Jvm.AM.st (gA s 6) (((gI s 4) + (gI s 5)) &&& (31 : Int32)) v1).bind fun a32 =>
  (k_weightOf v1 (sI (sA s 6 a32) 5 ((gI s 5) + (1 : Int32)))).bind fun r50 =>
  some (sI (sI (sA s 6 a32) 5 ((gI s 5) + (1 : Int32))) 6 ((gI s 6) + r50))
def k_enqueue  (v1 : Int32) (s : S) : Option S :=
  if (gI s 5) < (32 : Int32) then
    k_enqueue_13 v1 s
  else
    (k_evictOldest s).bind fun r10 =>
    k_enqueue_13 v1 r10
def k_quarantineChunk  (v1 : Int32) (s : S) : Option S :=
  (Jvm.AM.st (gA s 5) v1 (nar .byte (2 : Int32))).bind fun a6 =>
  (k_paintQuarantined v1 (sA s 5 a6)).bind fun r9 =>
  (k_enqueue v1 (sI r9 8 ((gI r9 8) - (1 : Int32)))).bind fun r24 =>
  some r24
def k_trimToBudget_2  : Nat → Int32 → S → Option S
  | 0, _, _ => none
  | n + 1, v1, s =>
    if v1 < (64 : Int32) then
      if (gI s 2) < (gI s 6) then
        if 0 < (gI s 5) then
          (k_evictOldest s).bind fun r27 =>
          k_trimToBudget_2 n (v1 + (1 : Int32)) r27
        else
          some s
      else
        some s
    else
      some s
def k_trimToBudget   (s : S) : Option S :=
  k_trimToBudget_2 BIG (0 : Int32) s
def k_free  (v1 : Int32) (s : S) : Option (Int32 × S) :=
  (k_slotForUserAddress v1 s).bind fun r2 =>
  if r2 < 0 then
    some ((2 : Int32), s)
  else
    (k_isQuarantined r2 s).bind fun r14 =>
    if r14 = 0 then
      (k_isLive r2 s).bind fun r24 =>
      if r24 = 0 then
        some ((2 : Int32), s)
      else
        (k_quarantineChunk r2 s).bind fun r34 =>
        (k_trimToBudget r34).bind fun r38 =>
        some ((0 : Int32), r38)
    else
      some ((1 : Int32), s)
def k_quarantineAt  (v1 : Int32) (s : S) : Option Int32 :=
  if v1 < 0 then
    some (-1 : Int32)
  else
    if v1 < (gI s 5) then
      (ix (gA s 6) (((gI s 4) + v1) &&& (31 : Int32))).bind fun a27 =>
      if (k_validSlot a27) = 0 then
        some (-1 : Int32)
      else
        (k_userAddressOf a27 s).bind fun r41 =>
        some r41
    else
      some (-1 : Int32)
def k_isAccessSize  (v1 : Int32)  : Int32 :=
  if v1 = (1 : Int32) then
    (1 : Int32)
  else
    if v1 = (2 : Int32) then
      (1 : Int32)
    else
      if v1 = (4 : Int32) then
        (1 : Int32)
      else
        if v1 = (8 : Int32) then
          (1 : Int32)
        else
          (0 : Int32)
def k_kindForShadow_28  (v1 : Int32)  : Int32 :=
  if v1 = (250 : Int32) then
    (1 : Int32)
  else
    if v1 = (251 : Int32) then
      (2 : Int32)
    else
      if v1 = (253 : Int32) then
        (3 : Int32)
      else
        (4 : Int32)
def k_kindForShadow  (v1 : Int32) (v2 : Int32)  : Int32 :=
  if v1 = 0 then
    (0 : Int32)
  else
    if v1 < (1 : Int32) then
      k_kindForShadow_28 v1
    else
      if (7 : Int32) < v1 then
        k_kindForShadow_28 v1
      else
        if v2 < v1 then
          (0 : Int32)
        else
          (2 : Int32)
def k_byteKind  (v1 : Int32) (s : S) : Option Int32 :=
  if v1 < 0 then
    some (5 : Int32)
  else
    if v1 < (gI s 3) then
      (ix (gA s 1) (v1 >>> ((3 : Int32) &&& 31))).bind fun a28 =>
      some (k_kindForShadow a28 (v1 &&& (7 : Int32)))
    else
      some (5 : Int32)
def k_recordError  (v1 : Int32) (s : S) : S :=
  sI (sI s 11 ((gI s 11) + (1 : Int32))) 10 v1
def k_checkAccess_31  (v4 : Int32) (v5 : Int32) (s : S) : Option (Int32 × S) :=
  some (v5, (k_recordError v4 s))
def k_checkAccess_2  : Nat → Int32 → Int32 → Int32 → S → Option (Int32 × S)
  | 0, _, _, _, _ => none
  | n + 1, v1, v2, v3, s =>
    if v3 < v2 then
      if v3 < (8 : Int32) then
        (k_byteKind (v1 + v3) s).bind fun r21 =>
        if r21 = 0 then
          k_checkAccess_2 n v1 v2 (v3 + (1 : Int32)) s
        else
          k_checkAccess_31 (v1 + v3) r21 s
      else
        some ((0 : Int32), s)
    else
      some ((0 : Int32), s)
def k_checkAccess  (v1 : Int32) (v2 : Int32) (s : S) : Option (Int32 × S) :=
  k_checkAccess_2 BIG v1 v2 (0 : Int32) s
def k_readLittleEndian_5  : Nat → Int32 → Int32 → Int64 → Int32 → S → Option Int64
  | 0, _, _, _, _, _ => none
  | n + 1, v1, v2, v3, v5, s =>
    if v5 < v2 then
      if v5 < (8 : Int32) then
        if (v1 + v5) < 0 then
          k_readLittleEndian_5 n v1 v2 v3 (v5 + (1 : Int32)) s
        else
          if (v1 + v5) < (gI s 3) then
            (ix (gA s 0) (v1 + v5)).bind fun a44 =>
            k_readLittleEndian_5 n v1 v2 (v3 ||| (((a44 &&& (255 : Int32)).toInt64) <<< (((8 : Int32) * v5).toInt64 &&& 63))) (v5 + (1 : Int32)) s
          else
            k_readLittleEndian_5 n v1 v2 v3 (v5 + (1 : Int32)) s
      else
        some v3
    else
      some v3
def k_readLittleEndian  (v1 : Int32) (v2 : Int32) (s : S) : Option Int64 :=
  k_readLittleEndian_5 BIG v1 v2 (0 : Int64) (0 : Int32) s
def k_load  (v1 : Int32) (v2 : Int32) (s : S) : Option (Int32 × S) :=
  if (k_isAccessSize v2) = 0 then
    some ((6 : Int32), s)
  else
    (k_checkAccess v1 v2 s).bind fun r14 =>
    if r14.1 = 0 then
      (k_readLittleEndian v1 v2 r14.2).bind fun r28 =>
      some ((0 : Int32), sL r14.2 9 r28)
    else
      some (r14.1, r14.2)
def k_writeLittleEndian_3  : Nat → Int32 → Int32 → Int64 → Int32 → S → Option S
  | 0, _, _, _, _, _ => none
  | n + 1, v1, v2, v3, v5, s =>
    if v5 < v2 then
      if v5 < (8 : Int32) then
        if (v1 + v5) < 0 then
          k_writeLittleEndian_3 n v1 v2 v3 (v5 + (1 : Int32)) s
        else
          if (v1 + v5) < (gI s 3) then
            (Jvm.AM.st (gA s 0) (v1 + v5) (nar .byte ((((XT.ushrL v3 ((8 : Int32) * v5)) &&& (255 : Int64)).toInt32).toInt8.toInt32))).bind fun a55 =>
            k_writeLittleEndian_3 n v1 v2 v3 (v5 + (1 : Int32)) (sA s 0 a55)
          else
            k_writeLittleEndian_3 n v1 v2 v3 (v5 + (1 : Int32)) s
      else
        some s
    else
      some s
def k_writeLittleEndian  (v1 : Int32) (v2 : Int32) (v3 : Int64) (s : S) : Option S :=
  k_writeLittleEndian_3 BIG v1 v2 v3 (0 : Int32) s
def k_store  (v1 : Int32) (v2 : Int32) (v3 : Int64) (s : S) : Option (Int32 × S) :=
  if (k_isAccessSize v2) = 0 then
    some ((6 : Int32), s)
  else
    (k_checkAccess v1 v2 s).bind fun r14 =>
    if r14.1 = 0 then
      (k_writeLittleEndian v1 v2 v3 r14.2).bind fun r31 =>
      some ((0 : Int32), r31)
    else
      some (r14.1, r14.2)
def k_lastValue   (s : S) : Int64 :=
  gL s 9
def k_lastBadAddress   (s : S) : Int32 :=
  gI s 10
def k_liveCount   (s : S) : Int32 :=
  gI s 8
def k_errorCount   (s : S) : Int32 :=
  gI s 11
def k_freeRunCount   (s : S) : Int32 :=
  gI s 7
def h_sizeOf  (v0 : Int32)  : Int32 :=
  if (v0 &&& (7 : Int32)) = (4 : Int32) then
    (3 : Int32)
  else
    (1 : Int32) <<< (((v0 &&& (7 : Int32)) &&& (3 : Int32)) &&& 31)
def h_addrOf  (v0 : Int32) (v1 : Int32)  : Option Int32 :=
  if (v0 &&& (8 : Int32)) = 0 then
    some (v1 + ((XT.ushr v0 (4 : Int32)) &&& (7 : Int32)))
  else
    some ((v0 &&& (2147483647 : Int32)) % (136 : Int32))
def law_650 (k35 : Int32 → Int32 → Int32 → Int32 → Int32 → Int32 → Int64 → Int32 → List Int32 → S → Option (Int32 × S)) (v2 : Int32) (v3 : Int32) (v4 : Int32) (v5 : Int32) (v8 : Int64) (v10 : Int32) (q : List Int32) (t0 : S) : Option (Int32 × S) :=
  if (k_liveCount t0) = v2 then
    if (k_errorCount t0) = v3 then
      if (k_lastBadAddress t0) = v5 then
        if (k_lastValue t0) = v8 then
          if (k_quarantineBytes t0) < 0 then
            some ((0 : Int32), t0)
          else
            if (96 : Int32) < (k_quarantineBytes t0) then
              some ((0 : Int32), t0)
            else
              if ((k_quarantineBytes t0) % (8 : Int32)) = 0 then
                if (k_quarantineBytes t0) < ((24 : Int32) * (k_quarantineCount t0)) then
                  some ((0 : Int32), t0)
                else
                  (k_largestFreeRun t0).bind fun r738 =>
                  if (16 : Int32) < (((3 : Int32) * (v2 + (k_quarantineCount t0))) + r738) then
                    some ((0 : Int32), t0)
                  else
                    if ((v2 + (k_quarantineCount t0)) + (1 : Int32)) < (k_freeRunCount t0) then
                      some ((0 : Int32), t0)
                    else
                      k35 v2 v3 v4 v5 (k_quarantineCount t0) (k_quarantineBytes t0) v8 (v10 + (4 : Int32)) q t0
              else
                some ((0 : Int32), t0)
        else
          some ((0 : Int32), t0)
      else
        some ((0 : Int32), t0)
    else
      some ((0 : Int32), t0)
  else
    some ((0 : Int32), t0)
def law_630 (k35 : Int32 → Int32 → Int32 → Int32 → Int32 → Int32 → Int64 → Int32 → List Int32 → S → Option (Int32 × S)) (v2 : Int32) (v3 : Int32) (v4 : Int32) (v5 : Int32) (v6 : Int32) (v7 : Int32) (v8 : Int64) (v10 : Int32) (q : List Int32) (t0 : S) : Option (Int32 × S) :=
  if (k_quarantineCount t0) = v6 then
    if (k_quarantineBytes t0) = v7 then
      law_650 k35 v2 v3 v4 v5 v8 v10 q t0
    else
      some ((0 : Int32), t0)
  else
    some ((0 : Int32), t0)
def law_491 (k35 : Int32 → Int32 → Int32 → Int32 → Int32 → Int32 → Int64 → Int32 → List Int32 → S → Option (Int32 × S)) (v2 : Int32) (v3 : Int32) (v4 : Int32) (v5 : Int32) (v6 : Int32) (v7 : Int32) (v8 : Int64) (v10 : Int32) (v11 : Int32) (v15 : Int32) (v16 : Int32) (v17 : Int32) (q : List Int32) (t0 : S) : Option (Int32 × S) :=
  if v15 = (3 : Int32) then
    if v17 = (6 : Int32) then
      law_630 k35 v2 v3 v4 v5 v6 v7 v8 v10 q t0
    else
      some ((0 : Int32), t0)
  else
    if v17 = 0 then
      if (128 : Int32) < (v16 + v15) then
        some ((0 : Int32), t0)
      else
        if v11 = (2 : Int32) then
          if v15 < (8 : Int32) then
            if (k_lastValue t0) < (0 : Int64) then
              some ((0 : Int32), t0)
            else
              if (k_lastValue t0) < ((1 : Int64) <<< (((8 : Int32) * v15).toInt64 &&& 63)) then
                law_630 k35 v2 v3 v4 v5 v6 v7 (k_lastValue t0) v10 q t0
              else
                some ((0 : Int32), t0)
          else
            law_630 k35 v2 v3 v4 v5 v6 v7 (k_lastValue t0) v10 q t0
        else
          law_630 k35 v2 v3 v4 v5 v6 v7 v8 v10 q t0
    else
      if v17 < (1 : Int32) then
        some ((0 : Int32), t0)
      else
        if (5 : Int32) < v17 then
          some ((0 : Int32), t0)
        else
          if (k_lastBadAddress t0) < v16 then
            some ((0 : Int32), t0)
          else
            if ((v16 + v15) - (1 : Int32)) < (k_lastBadAddress t0) then
              some ((0 : Int32), t0)
            else
              if v16 < (128 : Int32) then
                law_630 k35 v2 (v3 + (1 : Int32)) v4 (k_lastBadAddress t0) v6 v7 v8 v10 q t0
              else
                if v17 = (5 : Int32) then
                  if (k_lastBadAddress t0) = v16 then
                    law_630 k35 v2 (v3 + (1 : Int32)) v4 (k_lastBadAddress t0) v6 v7 v8 v10 q t0
                  else
                    some ((0 : Int32), t0)
                else
                  some ((0 : Int32), t0)
def law_436 (k35 : Int32 → Int32 → Int32 → Int32 → Int32 → Int32 → Int64 → Int32 → List Int32 → S → Option (Int32 × S)) (v2 : Int32) (v3 : Int32) (v4 : Int32) (v5 : Int32) (v8 : Int64) (v10 : Int32) (q : List Int32) (t0 : S) : Option (Int32 × S) :=
  law_650 k35 v2 v3 v4 v5 v8 v10 q t0
def law_416 (k35 : Int32 → Int32 → Int32 → Int32 → Int32 → Int32 → Int64 → Int32 → List Int32 → S → Option (Int32 × S)) (v2 : Int32) (v3 : Int32) (v4 : Int32) (v5 : Int32) (v6 : Int32) (v7 : Int32) (v8 : Int64) (v10 : Int32) (q : List Int32) (t0 : S) : Option (Int32 × S) :=
  if (k_quarantineCount t0) = v6 then
    if (k_quarantineBytes t0) = v7 then
      law_436 k35 v2 v3 v4 v5 v8 v10 q t0
    else
      some ((0 : Int32), t0)
  else
    some ((0 : Int32), t0)
def law_399 (k35 : Int32 → Int32 → Int32 → Int32 → Int32 → Int32 → Int64 → Int32 → List Int32 → S → Option (Int32 × S)) (v2 : Int32) (v3 : Int32) (v4 : Int32) (v5 : Int32) (v8 : Int64) (v10 : Int32) (q : List Int32) (t0 : S) : Option (Int32 × S) :=
  law_436 k35 v2 v3 v4 v5 v8 v10 q t0
def law_305 (k35 : Int32 → Int32 → Int32 → Int32 → Int32 → Int32 → Int64 → Int32 → List Int32 → S → Option (Int32 × S)) (v2 : Int32) (v3 : Int32) (v4 : Int32) (v5 : Int32) (v6 : Int32) (v7 : Int32) (v8 : Int64) (v10 : Int32) (p0 : Int32) (q : List Int32) (t0 : S) : Option (Int32 × S) :=
  (k_free p0 t0).bind fun r310 =>
  if r310.1 = 0 then
    (k_shadow (p0 / (8 : Int32)) r310.2).bind fun r329 =>
    (k_userSize p0 r310.2).bind fun r337 =>
    if r337 = (-1 : Int32) then
      if (v6 + (1 : Int32)) < (k_quarantineCount r310.2) then
        some ((0 : Int32), r310.2)
      else
        if r329 = (253 : Int32) then
          (k_quarantineAt ((k_quarantineCount r310.2) - (1 : Int32)) r310.2).bind fun r376 =>
          if r376 = p0 then
            law_399 k35 (v2 + (-1 : Int32)) v3 v4 v5 v8 v10 q r310.2
          else
            some ((0 : Int32), r310.2)
        else
          if r329 = (254 : Int32) then
            law_399 k35 (v2 + (-1 : Int32)) v3 v4 v5 v8 v10 q r310.2
          else
            some ((0 : Int32), r310.2)
    else
      some ((0 : Int32), r310.2)
  else
    if r310.1 = (1 : Int32) then
      law_416 k35 v2 v3 v4 v5 v6 v7 v8 v10 q r310.2
    else
      if r310.1 = (2 : Int32) then
        law_416 k35 v2 v3 v4 v5 v6 v7 v8 v10 q r310.2
      else
        some ((0 : Int32), r310.2)
def law_273 (k35 : Int32 → Int32 → Int32 → Int32 → Int32 → Int32 → Int64 → Int32 → List Int32 → S → Option (Int32 × S)) (v2 : Int32) (v3 : Int32) (v4 : Int32) (v5 : Int32) (v8 : Int64) (v10 : Int32) (q : List Int32) (t0 : S) : Option (Int32 × S) :=
  law_650 k35 v2 v3 v4 v5 v8 v10 q t0
def law_112 (k35 : Int32 → Int32 → Int32 → Int32 → Int32 → Int32 → Int64 → Int32 → List Int32 → S → Option (Int32 × S)) (v2 : Int32) (v3 : Int32) (v4 : Int32) (v5 : Int32) (v8 : Int64) (v10 : Int32) (v16 : Int32) (q : List Int32) (t0 : S) : Option (Int32 × S) :=
  if v16 = (-1 : Int32) then
    law_273 k35 v2 v3 v4 v5 v8 v10 q t0
  else
    some ((0 : Int32), t0)
def law_35  : Nat → Int32 → Int32 → Int32 → Int32 → Int32 → Int32 → Int64 → Int32 → List Int32 → S → Option (Int32 × S)
  | 0, _, _, _, _, _, _, _, _, _, _ => none
  | n + 1, v2, v3, v4, v5, v6, v7, v8, v10, q, t0 =>
    if (v10 + (3 : Int32)) < q.length.toInt32 then
      (ix q v10).bind fun a47 =>
      (ix q (v10 + (1 : Int32))).bind fun a57 =>
      (ix q (v10 + (2 : Int32))).bind fun a65 =>
      (ix q (v10 + (3 : Int32))).bind fun a73 =>
      if (a47 &&& (3 : Int32)) = 0 then
        (k_alloc ((a57 &&& (127 : Int32)) % (67 : Int32)) t0).bind fun r94 =>
        if ((a57 &&& (127 : Int32)) % (67 : Int32)) < (1 : Int32) then
          law_112 (fun v2 v3 v4 v5 v6 v7 v8 v10 q t0 => law_35 n v2 v3 v4 v5 v6 v7 v8 v10 q t0) v2 v3 v4 v5 v8 v10 r94.1 q r94.2
        else
          if (64 : Int32) < ((a57 &&& (127 : Int32)) % (67 : Int32)) then
            law_112 (fun v2 v3 v4 v5 v6 v7 v8 v10 q t0 => law_35 n v2 v3 v4 v5 v6 v7 v8 v10 q t0) v2 v3 v4 v5 v8 v10 r94.1 q r94.2
          else
            if r94.1 = (-2 : Int32) then
              if (k_quarantineCount r94.2) = 0 then
                if (k_quarantineBytes r94.2) = 0 then
                  (k_largestFreeRun r94.2).bind fun r144 =>
                  if r144 < ((2 : Int32) + ((((a57 &&& (127 : Int32)) % (67 : Int32)) + (7 : Int32)) / (8 : Int32))) then
                    law_273 (fun v2 v3 v4 v5 v6 v7 v8 v10 q t0 => law_35 n v2 v3 v4 v5 v6 v7 v8 v10 q t0) v2 v3 v4 v5 v8 v10 q r94.2
                  else
                    some ((0 : Int32), r94.2)
                else
                  some ((0 : Int32), r94.2)
              else
                some ((0 : Int32), r94.2)
            else
              if r94.1 < (8 : Int32) then
                some ((0 : Int32), r94.2)
              else
                if (r94.1 % (8 : Int32)) = 0 then
                  (k_userSize r94.1 r94.2).bind fun r180 =>
                  if r180 = ((a57 &&& (127 : Int32)) % (67 : Int32)) then
                    (k_shadow ((r94.1 / (8 : Int32)) - (1 : Int32)) r94.2).bind fun r216 =>
                    if r216 = (250 : Int32) then
                      (k_shadow (((r94.1 / (8 : Int32)) + ((((a57 &&& (127 : Int32)) % (67 : Int32)) + (7 : Int32)) / (8 : Int32))) - (1 : Int32)) r94.2).bind fun r228 =>
                      if r228 = (((a57 &&& (127 : Int32)) % (67 : Int32)) % (8 : Int32)) then
                        (k_shadow ((((r94.1 / (8 : Int32)) + ((((a57 &&& (127 : Int32)) % (67 : Int32)) + (7 : Int32)) / (8 : Int32))) - (1 : Int32)) + (1 : Int32)) r94.2).bind fun r246 =>
                        if r246 = (251 : Int32) then
                          if v6 < (k_quarantineCount r94.2) then
                            some ((0 : Int32), r94.2)
                          else
                            law_273 (fun v2 v3 v4 v5 v6 v7 v8 v10 q t0 => law_35 n v2 v3 v4 v5 v6 v7 v8 v10 q t0) (v2 + (1 : Int32)) v3 r94.1 v5 v8 v10 q r94.2
                        else
                          some ((0 : Int32), r94.2)
                      else
                        some ((0 : Int32), r94.2)
                    else
                      some ((0 : Int32), r94.2)
                  else
                    some ((0 : Int32), r94.2)
                else
                  some ((0 : Int32), r94.2)
      else
        if (a47 &&& (3 : Int32)) = (1 : Int32) then
          if (a57 &&& (1 : Int32)) = 0 then
            law_305 (fun v2 v3 v4 v5 v6 v7 v8 v10 q t0 => law_35 n v2 v3 v4 v5 v6 v7 v8 v10 q t0) v2 v3 v4 v5 v6 v7 v8 v10 v4 q t0
          else
            law_305 (fun v2 v3 v4 v5 v6 v7 v8 v10 q t0 => law_35 n v2 v3 v4 v5 v6 v7 v8 v10 q t0) v2 v3 v4 v5 v6 v7 v8 v10 ((8 : Int32) * ((a65 &&& (2147483647 : Int32)) % (18 : Int32))) q t0
        else
          (h_addrOf a65 v4).bind fun r450 =>
          if (a47 &&& (3 : Int32)) = (2 : Int32) then
            (k_load r450 (h_sizeOf a57) t0).bind fun r466 =>
            law_491 (fun v2 v3 v4 v5 v6 v7 v8 v10 q t0 => law_35 n v2 v3 v4 v5 v6 v7 v8 v10 q t0) v2 v3 v4 v5 v6 v7 v8 v10 (a47 &&& (3 : Int32)) (h_sizeOf a57) r450 r466.1 q r466.2
          else
            (k_store r450 (h_sizeOf a57) (a73.toInt64 * (65537 : Int64)) t0).bind fun r486 =>
            law_491 (fun v2 v3 v4 v5 v6 v7 v8 v10 q t0 => law_35 n v2 v3 v4 v5 v6 v7 v8 v10 q t0) v2 v3 v4 v5 v6 v7 v8 v10 (a47 &&& (3 : Int32)) (h_sizeOf a57) r450 r486.1 q r486.2
    else
      some ((1 : Int32), t0)
def law   (q : List Int32) : Option (Int32 × S) :=
  (k_init (16 : Int32) (1 : Int32) (96 : Int32)).bind fun r9 =>
  law_35 BIG (0 : Int32) (0 : Int32) (0 : Int32) (0 : Int32) (0 : Int32) (0 : Int32) (0 : Int64) (0 : Int32) q r9
set_option maxRecDepth 65536 in
set_option maxHeartbeats 4000000 in
theorem k_clamp_ok  {s : S} : ∀ (v1 : Int32) (v2 : Int32) (v3 : Int32)   (o : Int32), k_clamp v1 v2 v3 = o → Go PP m0 0 [.val (.ref 1), .val (.int v1), .val (.int v2), .val (.int v3)] [] (none, [(9, s)]) (some (.int o), (none, [(9, s)])) := by
  intro v1 v2 v3 o hf
  unfold k_clamp at hf
  refine go_iloadN (pc := 0) d0_0 rfl (go_iloadN (pc := 1) d0_1 rfl ?_)
  by_cases h1 : v1 < v2
  · replace hf := (if_pos h1).symm.trans hf
    refine go_icN (pc := 2) d0_2 (XT.ii_ge_f h1) ?_
    refine go_iloadN (pc := 5) d0_5 rfl ?_
    cases hf
    exact go_iret (pc := 6) rfl d0_6
  · replace hf := (if_neg h1).symm.trans hf
    refine go_icY (pc := 2) (pc' := 7) d0_2 (XT.ii_ge_t h1) j_2_5 ?_
    refine go_iloadN (pc := 7) d0_7 rfl (go_iloadN (pc := 8) d0_8 rfl ?_)
    by_cases h2 : v3 < v1
    · replace hf := (if_pos h2).symm.trans hf
      refine go_icN (pc := 9) d0_9 (XT.ii_le_f h2) ?_
      refine go_iloadN (pc := 12) d0_12 rfl ?_
      cases hf
      exact go_iret (pc := 13) rfl d0_13
    · replace hf := (if_neg h2).symm.trans hf
      refine go_icY (pc := 9) (pc' := 14) d0_9 (XT.ii_le_t h2) j_9_5 ?_
      refine go_iloadN (pc := 14) d0_14 rfl ?_
      cases hf
      exact go_iret (pc := 15) rfl d0_15
theorem c_k_clamp (v1 : Int32) (v2 : Int32) (v3 : Int32) (s : S) : Call PP m0 [.ref 1, .int v1, .int v2, .int v3] (none, [(9, s)]) (some (.int (k_clamp v1 v2 v3)), (none, [(9, s)])) := call_of_go pl_0 rfl (fun h => nomatch h) (k_clamp_ok v1 v2 v3   _ rfl)
set_option maxRecDepth 65536 in
set_option maxHeartbeats 4000000 in
theorem k_resetArena_32_ok  : ∀ (n : Nat) (v1 : Int32) (s : S)  (o : S), k_resetArena_32 n v1 s = some o → Go PP m1 32 [.val (.ref 1), .val (.int v1)] [] (none, [(9, s)]) (none, (none, [(9, o)])) := by
  intro n
  induction n with
  | zero => intro v1 s o hf; exact nomatch hf
  | succ n ih =>
    intro v1 s o hf
    unfold k_resetArena_32 at hf
    refine go_iloadN (pc := 32) d1_32 rfl (go_sipush (pc := 33) d1_33 cs_256 ?_)
    by_cases h1 : v1 < (256 : Int32)
    · replace hf := (if_pos h1).symm.trans hf
      refine go_icN (pc := 36) d1_36 (XT.ii_ge_f h1) ?_
      refine go_aloadN (pc := 39) d1_39 rfl (go_getA (pc := 40) fa_7 hm_1 d1_40 rfl (go_iloadN (pc := 43) d1_43 rfl (go_iconst (pc := 44) d1_44 ci_0 ?_)))
      obtain ⟨a45, e2, hf⟩ := Option.bind_eq_some_iff.mp hf
      refine go_bastore (pc := 45) (q := 0) ar_0 (by decide) rfl hn_1 rfl e2 d1_45 ?_
      refine go_iinc (pc := 46) (L' := [.val (.ref 1), .val (.int (v1 + (1 : Int32)))]) d1_46 rfl ci_1 rfl (go_goto (pc := 49) (pc' := 32) d1_49 j_49_m17 ?_)
      exact ih (v1 + (1 : Int32)) (sA s 0 a45) _ hf
    · replace hf := (if_neg h1).symm.trans hf
      refine go_icY (pc := 36) (pc' := 52) d1_36 (XT.ii_ge_t h1) j_36_16 ?_
      cases hf
      exact go_ret (pc := 52) rfl d1_52
set_option maxRecDepth 65536 in
set_option maxHeartbeats 4000000 in
theorem k_resetArena_30_ok  : ∀  (s : S) (x1 : Slot) (hx1 : k1 x1) (o : S), k_resetArena_30 s = some o → Go PP m1 30 [.val (.ref 1), x1] [] (none, [(9, s)]) (none, (none, [(9, o)])) := by
  intro s x1 hx1 o hf
  unfold k_resetArena_30 at hf
  refine go_iconst (pc := 30) d1_30 ci_0 (go_istoreN (pc := 31) (L' := [.val (.ref 1), .val (.int (0 : Int32))]) d1_31 (stx rfl hx1 rfl) ?_)
  exact k_resetArena_32_ok BIG (0 : Int32) s _ hf
set_option maxRecDepth 65536 in
set_option maxHeartbeats 4000000 in
theorem k_resetArena_2_ok  : ∀ (n : Nat) (v1 : Int32) (s : S)  (o : S), k_resetArena_2 n v1 s = some o → Go PP m1 2 [.val (.ref 1), .val (.int v1)] [] (none, [(9, s)]) (none, (none, [(9, o)])) := by
  intro n
  induction n with
  | zero => intro v1 s o hf; exact nomatch hf
  | succ n ih =>
    intro v1 s o hf
    unfold k_resetArena_2 at hf
    refine go_iloadN (pc := 2) d1_2 rfl (go_bipush (pc := 3) d1_3 cb_32 ?_)
    by_cases h1 : v1 < (32 : Int32)
    · replace hf := (if_pos h1).symm.trans hf
      refine go_icN (pc := 5) d1_5 (XT.ii_ge_f h1) ?_
      refine go_aloadN (pc := 8) d1_8 rfl (go_getA (pc := 9) fa_13 hm_1 d1_9 rfl (go_iloadN (pc := 12) d1_12 rfl (go_sipush (pc := 13) d1_13 cs_254 ?_)))
      obtain ⟨a16, e2, hf⟩ := Option.bind_eq_some_iff.mp hf
      refine go_iastore (pc := 16) (q := 1) ar_1 rfl hn_1 e2 d1_16 ?_
      refine go_aloadN (pc := 17) d1_17 rfl (go_getA (pc := 18) fa_17 hm_1 d1_18 rfl (go_iloadN (pc := 21) d1_21 rfl (go_iconst (pc := 22) d1_22 ci_m1 ?_)))
      obtain ⟨a23, e3, hf⟩ := Option.bind_eq_some_iff.mp hf
      refine go_iastore (pc := 23) (q := 2) ar_2 rfl hn_1 e3 d1_23 ?_
      refine go_iinc (pc := 24) (L' := [.val (.ref 1), .val (.int (v1 + (1 : Int32)))]) d1_24 rfl ci_1 rfl (go_goto (pc := 27) (pc' := 2) d1_27 j_27_m25 ?_)
      exact ih (v1 + (1 : Int32)) (sA (sA s 1 a16) 2 a23) _ hf
    · replace hf := (if_neg h1).symm.trans hf
      refine go_icY (pc := 5) (pc' := 30) d1_5 (XT.ii_ge_t h1) j_5_25 ?_
      exact k_resetArena_30_ok s (.val (.int v1)) (Or.inr ⟨_, rfl, rfl⟩) _ hf
set_option maxRecDepth 65536 in
set_option maxHeartbeats 4000000 in
theorem k_resetArena_ok  : ∀  (s : S)  (o : S), k_resetArena s = some o → Go PP m1 0 [.val (.ref 1), .unset] [] (none, [(9, s)]) (none, (none, [(9, o)])) := by
  intro s o hf
  unfold k_resetArena at hf
  refine go_iconst (pc := 0) d1_0 ci_0 (go_istoreN (pc := 1) (L' := [.val (.ref 1), .val (.int (0 : Int32))]) d1_1 rfl ?_)
  exact k_resetArena_2_ok BIG (0 : Int32) s _ hf
theorem c_k_resetArena (s : S) (o : S) (hf : k_resetArena s = some o) : Call PP m1 [.ref 1] (none, [(9, s)]) (none, (none, [(9, o)])) := call_of_go pl_0 rfl (fun _ => rfl) (k_resetArena_ok s   _ hf)
set_option maxRecDepth 65536 in
set_option maxHeartbeats 4000000 in
theorem k_resetChunks_2_ok  : ∀ (n : Nat) (v1 : Int32) (s : S)  (o : S), k_resetChunks_2 n v1 s = some o → Go PP m2 2 [.val (.ref 1), .val (.int v1)] [] (none, [(9, s)]) (none, (none, [(9, o)])) := by
  intro n
  induction n with
  | zero => intro v1 s o hf; exact nomatch hf
  | succ n ih =>
    intro v1 s o hf
    unfold k_resetChunks_2 at hf
    refine go_iloadN (pc := 2) d2_2 rfl (go_bipush (pc := 3) d2_3 cb_32 ?_)
    by_cases h1 : v1 < (32 : Int32)
    · replace hf := (if_pos h1).symm.trans hf
      refine go_icN (pc := 5) d2_5 (XT.ii_ge_f h1) ?_
      refine go_aloadN (pc := 8) d2_8 rfl (go_getA (pc := 9) fa_26 hm_2 d2_9 rfl (go_iloadN (pc := 12) d2_12 rfl (go_iconst (pc := 13) d2_13 ci_0 ?_)))
      obtain ⟨a14, e2, hf⟩ := Option.bind_eq_some_iff.mp hf
      refine go_bastore (pc := 14) (q := 5) ar_5 (by decide) rfl hn_2 rfl e2 d2_14 ?_
      refine go_aloadN (pc := 15) d2_15 rfl (go_getA (pc := 16) fa_20 hm_2 d2_16 rfl (go_iloadN (pc := 19) d2_19 rfl (go_iconst (pc := 20) d2_20 ci_0 ?_)))
      obtain ⟨a21, e3, hf⟩ := Option.bind_eq_some_iff.mp hf
      refine go_iastore (pc := 21) (q := 3) ar_3 rfl hn_2 e3 d2_21 ?_
      refine go_aloadN (pc := 22) d2_22 rfl (go_getA (pc := 23) fa_23 hm_2 d2_23 rfl (go_iloadN (pc := 26) d2_26 rfl (go_iconst (pc := 27) d2_27 ci_0 ?_)))
      obtain ⟨a28, e4, hf⟩ := Option.bind_eq_some_iff.mp hf
      refine go_iastore (pc := 28) (q := 4) ar_4 rfl hn_2 e4 d2_28 ?_
      refine go_iinc (pc := 29) (L' := [.val (.ref 1), .val (.int (v1 + (1 : Int32)))]) d2_29 rfl ci_1 rfl (go_goto (pc := 32) (pc' := 2) d2_32 j_32_m30 ?_)
      exact ih (v1 + (1 : Int32)) (sA (sA (sA s 5 a14) 3 a21) 4 a28) _ hf
    · replace hf := (if_neg h1).symm.trans hf
      refine go_icY (pc := 5) (pc' := 35) d2_5 (XT.ii_ge_t h1) j_5_30 ?_
      cases hf
      exact go_ret (pc := 35) rfl d2_35
set_option maxRecDepth 65536 in
set_option maxHeartbeats 4000000 in
theorem k_resetChunks_ok  : ∀  (s : S)  (o : S), k_resetChunks s = some o → Go PP m2 0 [.val (.ref 1), .unset] [] (none, [(9, s)]) (none, (none, [(9, o)])) := by
  intro s o hf
  unfold k_resetChunks at hf
  refine go_iconst (pc := 0) d2_0 ci_0 (go_istoreN (pc := 1) (L' := [.val (.ref 1), .val (.int (0 : Int32))]) d2_1 rfl ?_)
  exact k_resetChunks_2_ok BIG (0 : Int32) s _ hf
theorem c_k_resetChunks (s : S) (o : S) (hf : k_resetChunks s = some o) : Call PP m2 [.ref 1] (none, [(9, s)]) (none, (none, [(9, o)])) := call_of_go pl_0 rfl (fun _ => rfl) (k_resetChunks_ok s   _ hf)
set_option maxRecDepth 65536 in
set_option maxHeartbeats 4000000 in
theorem k_resetQuarantine_21_ok  : ∀  (s : S) (x1 : Slot) (hx1 : k1 x1) (o : S), k_resetQuarantine_21 s = some o → Go PP m3 21 [.val (.ref 1), x1] [] (none, [(9, s)]) (none, (none, [(9, o)])) := by
  intro s x1 hx1 o hf
  unfold k_resetQuarantine_21 at hf
  refine go_aloadN (pc := 21) d3_21 rfl (go_iconst (pc := 22) d3_22 ci_0 (go_putI (pc := 23) fs_136 hm_3 (wr_4 _) hn_3 d3_23 (go_aloadN (pc := 26) d3_26 rfl (go_iconst (pc := 27) d3_27 ci_0 (go_putI (pc := 28) fs_130 hm_3 (wr_5 _) hn_3 d3_28 (go_aloadN (pc := 31) d3_31 rfl (go_iconst (pc := 32) d3_32 ci_0 ?_)))))))
  refine go_putI (pc := 33) fs_133 hm_3 (wr_6 _) hn_3 d3_33 ?_
  cases hf
  exact go_ret (pc := 36) rfl d3_36
set_option maxRecDepth 65536 in
set_option maxHeartbeats 4000000 in
theorem k_resetQuarantine_2_ok  : ∀ (n : Nat) (v1 : Int32) (s : S)  (o : S), k_resetQuarantine_2 n v1 s = some o → Go PP m3 2 [.val (.ref 1), .val (.int v1)] [] (none, [(9, s)]) (none, (none, [(9, o)])) := by
  intro n
  induction n with
  | zero => intro v1 s o hf; exact nomatch hf
  | succ n ih =>
    intro v1 s o hf
    unfold k_resetQuarantine_2 at hf
    refine go_iloadN (pc := 2) d3_2 rfl (go_bipush (pc := 3) d3_3 cb_32 ?_)
    by_cases h1 : v1 < (32 : Int32)
    · replace hf := (if_pos h1).symm.trans hf
      refine go_icN (pc := 5) d3_5 (XT.ii_ge_f h1) ?_
      refine go_aloadN (pc := 8) d3_8 rfl (go_getA (pc := 9) fa_29 hm_3 d3_9 rfl (go_iloadN (pc := 12) d3_12 rfl (go_iconst (pc := 13) d3_13 ci_m1 ?_)))
      obtain ⟨a14, e2, hf⟩ := Option.bind_eq_some_iff.mp hf
      refine go_iastore (pc := 14) (q := 6) ar_6 rfl hn_3 e2 d3_14 ?_
      refine go_iinc (pc := 15) (L' := [.val (.ref 1), .val (.int (v1 + (1 : Int32)))]) d3_15 rfl ci_1 rfl (go_goto (pc := 18) (pc' := 2) d3_18 j_18_m16 ?_)
      exact ih (v1 + (1 : Int32)) (sA s 6 a14) _ hf
    · replace hf := (if_neg h1).symm.trans hf
      refine go_icY (pc := 5) (pc' := 21) d3_5 (XT.ii_ge_t h1) j_5_16 ?_
      exact k_resetQuarantine_21_ok s (.val (.int v1)) (Or.inr ⟨_, rfl, rfl⟩) _ hf
set_option maxRecDepth 65536 in
set_option maxHeartbeats 4000000 in
theorem k_resetQuarantine_ok  : ∀  (s : S)  (o : S), k_resetQuarantine s = some o → Go PP m3 0 [.val (.ref 1), .unset] [] (none, [(9, s)]) (none, (none, [(9, o)])) := by
  intro s o hf
  unfold k_resetQuarantine at hf
  refine go_iconst (pc := 0) d3_0 ci_0 (go_istoreN (pc := 1) (L' := [.val (.ref 1), .val (.int (0 : Int32))]) d3_1 rfl ?_)
  exact k_resetQuarantine_2_ok BIG (0 : Int32) s _ hf
theorem c_k_resetQuarantine (s : S) (o : S) (hf : k_resetQuarantine s = some o) : Call PP m3 [.ref 1] (none, [(9, s)]) (none, (none, [(9, o)])) := call_of_go pl_0 rfl (fun _ => rfl) (k_resetQuarantine_ok s   _ hf)
set_option maxRecDepth 65536 in
set_option maxHeartbeats 4000000 in
theorem k_resetRuns_28_ok  : ∀  (s : S) (x1 : Slot) (hx1 : k1 x1) (o : S), k_resetRuns_28 s = some o → Go PP m4 28 [.val (.ref 1), x1] [] (none, [(9, s)]) (none, (none, [(9, o)])) := by
  intro s x1 hx1 o hf
  unfold k_resetRuns_28 at hf
  refine go_aloadN (pc := 28) d4_28 rfl (go_getA (pc := 29) fa_32 hm_4 d4_29 rfl (go_iconst (pc := 32) d4_32 ci_0 (go_iconst (pc := 33) d4_33 ci_0 ?_)))
  obtain ⟨a34, e1, hf⟩ := Option.bind_eq_some_iff.mp hf
  refine go_iastore (pc := 34) (q := 7) ar_7 rfl hn_4 e1 d4_34 ?_
  refine go_aloadN (pc := 35) d4_35 rfl (go_getA (pc := 36) fa_35 hm_4 d4_36 rfl (go_iconst (pc := 39) d4_39 ci_0 (go_aloadN (pc := 40) d4_40 rfl (go_getI (pc := 41) fs_42 hm_4 d4_41 ?_))))
  obtain ⟨a44, e2, hf⟩ := Option.bind_eq_some_iff.mp hf
  refine go_iastore (pc := 44) (q := 8) ar_8 rfl hn_4 e2 d4_44 ?_
  refine go_aloadN (pc := 45) d4_45 rfl (go_iconst (pc := 46) d4_46 ci_1 (go_putI (pc := 47) fs_145 hm_4 (wr_7 _) hn_4 d4_47 ?_))
  cases hf
  exact go_ret (pc := 50) rfl d4_50
set_option maxRecDepth 65536 in
set_option maxHeartbeats 4000000 in
theorem k_resetRuns_2_ok  : ∀ (n : Nat) (v1 : Int32) (s : S)  (o : S), k_resetRuns_2 n v1 s = some o → Go PP m4 2 [.val (.ref 1), .val (.int v1)] [] (none, [(9, s)]) (none, (none, [(9, o)])) := by
  intro n
  induction n with
  | zero => intro v1 s o hf; exact nomatch hf
  | succ n ih =>
    intro v1 s o hf
    unfold k_resetRuns_2 at hf
    refine go_iloadN (pc := 2) d4_2 rfl (go_bipush (pc := 3) d4_3 cb_32 ?_)
    by_cases h1 : v1 < (32 : Int32)
    · replace hf := (if_pos h1).symm.trans hf
      refine go_icN (pc := 5) d4_5 (XT.ii_ge_f h1) ?_
      refine go_aloadN (pc := 8) d4_8 rfl (go_getA (pc := 9) fa_32 hm_4 d4_9 rfl (go_iloadN (pc := 12) d4_12 rfl (go_iconst (pc := 13) d4_13 ci_0 ?_)))
      obtain ⟨a14, e2, hf⟩ := Option.bind_eq_some_iff.mp hf
      refine go_iastore (pc := 14) (q := 7) ar_7 rfl hn_4 e2 d4_14 ?_
      refine go_aloadN (pc := 15) d4_15 rfl (go_getA (pc := 16) fa_35 hm_4 d4_16 rfl (go_iloadN (pc := 19) d4_19 rfl (go_iconst (pc := 20) d4_20 ci_0 ?_)))
      obtain ⟨a21, e3, hf⟩ := Option.bind_eq_some_iff.mp hf
      refine go_iastore (pc := 21) (q := 8) ar_8 rfl hn_4 e3 d4_21 ?_
      refine go_iinc (pc := 22) (L' := [.val (.ref 1), .val (.int (v1 + (1 : Int32)))]) d4_22 rfl ci_1 rfl (go_goto (pc := 25) (pc' := 2) d4_25 j_25_m23 ?_)
      exact ih (v1 + (1 : Int32)) (sA (sA s 7 a14) 8 a21) _ hf
    · replace hf := (if_neg h1).symm.trans hf
      refine go_icY (pc := 5) (pc' := 28) d4_5 (XT.ii_ge_t h1) j_5_23 ?_
      exact k_resetRuns_28_ok s (.val (.int v1)) (Or.inr ⟨_, rfl, rfl⟩) _ hf
set_option maxRecDepth 65536 in
set_option maxHeartbeats 4000000 in
theorem k_resetRuns_ok  : ∀  (s : S)  (o : S), k_resetRuns s = some o → Go PP m4 0 [.val (.ref 1), .unset] [] (none, [(9, s)]) (none, (none, [(9, o)])) := by
  intro s o hf
  unfold k_resetRuns at hf
  refine go_iconst (pc := 0) d4_0 ci_0 (go_istoreN (pc := 1) (L' := [.val (.ref 1), .val (.int (0 : Int32))]) d4_1 rfl ?_)
  exact k_resetRuns_2_ok BIG (0 : Int32) s _ hf
theorem c_k_resetRuns (s : S) (o : S) (hf : k_resetRuns s = some o) : Call PP m4 [.ref 1] (none, [(9, s)]) (none, (none, [(9, o)])) := call_of_go pl_0 rfl (fun _ => rfl) (k_resetRuns_ok s   _ hf)
set_option maxRecDepth 65536 in
set_option maxHeartbeats 4000000 in
theorem k_init_ok  : ∀ (v1 : Int32) (v2 : Int32) (v3 : Int32)   (o : S), k_init v1 v2 v3 = some o → Go PP m5 0 [.val (.ref 1), .val (.int v1), .val (.int v2), .val (.int v3)] [] (none, [(0, s0)]) (none, (none, [(9, o)])) := by
  intro v1 v2 v3 o hf
  unfold k_init at hf
  refine go_aloadN (pc := 0) d5_0 rfl ?_
  refine go_objinit (pc := 1) (rest := []) (a := 0) (List.mem_of_getElem? (i := 6) rfl) (List.mem_of_getElem? (i := 7) rfl) (List.mem_of_getElem? (i := 8) rfl) rfl rfl d5_1 ?_
  refine go_aloadN (pc := 4) d5_4 rfl (go_sipush (pc := 5) d5_5 cs_256 ?_)
  refine go_newI (pc := 8) (ty := .byte) rfl (by decide) ar_0 (List.mem_of_getElem? (i := 9) rfl) (List.mem_of_getElem? (i := 10) rfl) hm_5 (Or.inr ⟨List.mem_of_getElem? (i := 11) rfl, rfl⟩) rfl hn_5 (by decide) rfl rfl rfl rfl d5_8 d5_10 ?_
  refine go_aloadN (pc := 13) d5_13 rfl (go_bipush (pc := 14) d5_14 cb_32 ?_)
  refine go_newI (pc := 16) (ty := .int) rfl (by decide) ar_1 (List.mem_of_getElem? (i := 12) rfl) (List.mem_of_getElem? (i := 13) rfl) hm_5 (Or.inr ⟨List.mem_of_getElem? (i := 14) rfl, rfl⟩) rfl hn_5 (by decide) rfl rfl rfl rfl d5_16 d5_18 ?_
  refine go_aloadN (pc := 21) d5_21 rfl (go_bipush (pc := 22) d5_22 cb_32 ?_)
  refine go_newI (pc := 24) (ty := .int) rfl (by decide) ar_2 (List.mem_of_getElem? (i := 12) rfl) (List.mem_of_getElem? (i := 15) rfl) hm_5 (Or.inr ⟨List.mem_of_getElem? (i := 16) rfl, rfl⟩) rfl hn_5 (by decide) rfl rfl rfl rfl d5_24 d5_26 ?_
  refine go_aloadN (pc := 29) d5_29 rfl (go_bipush (pc := 30) d5_30 cb_32 ?_)
  refine go_newI (pc := 32) (ty := .int) rfl (by decide) ar_3 (List.mem_of_getElem? (i := 12) rfl) (List.mem_of_getElem? (i := 17) rfl) hm_5 (Or.inr ⟨List.mem_of_getElem? (i := 18) rfl, rfl⟩) rfl hn_5 (by decide) rfl rfl rfl rfl d5_32 d5_34 ?_
  refine go_aloadN (pc := 37) d5_37 rfl (go_bipush (pc := 38) d5_38 cb_32 ?_)
  refine go_newI (pc := 40) (ty := .int) rfl (by decide) ar_4 (List.mem_of_getElem? (i := 12) rfl) (List.mem_of_getElem? (i := 19) rfl) hm_5 (Or.inr ⟨List.mem_of_getElem? (i := 20) rfl, rfl⟩) rfl hn_5 (by decide) rfl rfl rfl rfl d5_40 d5_42 ?_
  refine go_aloadN (pc := 45) d5_45 rfl (go_bipush (pc := 46) d5_46 cb_32 ?_)
  refine go_newI (pc := 48) (ty := .byte) rfl (by decide) ar_5 (List.mem_of_getElem? (i := 9) rfl) (List.mem_of_getElem? (i := 21) rfl) hm_5 (Or.inr ⟨List.mem_of_getElem? (i := 22) rfl, rfl⟩) rfl hn_5 (by decide) rfl rfl rfl rfl d5_48 d5_50 ?_
  refine go_aloadN (pc := 53) d5_53 rfl (go_bipush (pc := 54) d5_54 cb_32 ?_)
  refine go_newI (pc := 56) (ty := .int) rfl (by decide) ar_6 (List.mem_of_getElem? (i := 12) rfl) (List.mem_of_getElem? (i := 23) rfl) hm_5 (Or.inr ⟨List.mem_of_getElem? (i := 24) rfl, rfl⟩) rfl hn_5 (by decide) rfl rfl rfl rfl d5_56 d5_58 ?_
  refine go_aloadN (pc := 61) d5_61 rfl (go_bipush (pc := 62) d5_62 cb_32 ?_)
  refine go_newI (pc := 64) (ty := .int) rfl (by decide) ar_7 (List.mem_of_getElem? (i := 12) rfl) (List.mem_of_getElem? (i := 25) rfl) hm_5 (Or.inr ⟨List.mem_of_getElem? (i := 26) rfl, rfl⟩) rfl hn_5 (by decide) rfl rfl rfl rfl d5_64 d5_66 ?_
  refine go_aloadN (pc := 69) d5_69 rfl (go_bipush (pc := 70) d5_70 cb_32 ?_)
  refine go_newI (pc := 72) (ty := .int) rfl (by decide) ar_8 (List.mem_of_getElem? (i := 12) rfl) (List.mem_of_getElem? (i := 27) rfl) hm_5 (Or.inr ⟨List.mem_of_getElem? (i := 28) rfl, rfl⟩) rfl hn_5 (by decide) rfl rfl rfl rfl d5_72 d5_74 ?_
  refine go_aloadN (pc := 77) d5_77 rfl (go_aloadN (pc := 78) d5_78 rfl (go_iloadN (pc := 79) d5_79 rfl (go_bipush (pc := 80) d5_80 cb_8 (go_bipush (pc := 82) d5_82 cb_32 ?_))))
  refine go_priv (pc := 84) (i := 0) (as := [.int v1, .int (8 : Int32), .int (32 : Int32)]) (rest := [.ref 1]) (w' := (none, [(9, sA (sA (sA (sA (sA (sA (sA (sA (sA s0 0 (rep 256 0)) 1 (rep 32 0)) 2 (rep 32 0)) 3 (rep 32 0)) 4 (rep 32 0)) 5 (rep 32 0)) 6 (rep 32 0)) 7 (rep 32 0)) 8 (rep 32 0))])) lk_0_38 pd_0 rfl oid_0 rfl rfl rfl rfl rfl rfl ⟨rfl, rfl, rfl, rfl, rfl⟩ d5_84 (c_k_clamp v1 (8 : Int32) (32 : Int32) (sA (sA (sA (sA (sA (sA (sA (sA (sA s0 0 (rep 256 0)) 1 (rep 32 0)) 2 (rep 32 0)) 3 (rep 32 0)) 4 (rep 32 0)) 5 (rep 32 0)) 6 (rep 32 0)) 7 (rep 32 0)) 8 (rep 32 0))) ?_
  refine go_putI (pc := 87) fs_42 hm_5 (wr_0 _) hn_5 d5_87 (go_aloadN (pc := 90) d5_90 rfl (go_aloadN (pc := 91) d5_91 rfl (go_iloadN (pc := 92) d5_92 rfl (go_iconst (pc := 93) d5_93 ci_1 (go_iconst (pc := 94) d5_94 ci_3 ?_)))))
  refine go_priv (pc := 95) (i := 0) (as := [.int v2, .int (1 : Int32), .int (3 : Int32)]) (rest := [.ref 1]) (w' := (none, [(9, sI (sA (sA (sA (sA (sA (sA (sA (sA (sA s0 0 (rep 256 0)) 1 (rep 32 0)) 2 (rep 32 0)) 3 (rep 32 0)) 4 (rep 32 0)) 5 (rep 32 0)) 6 (rep 32 0)) 7 (rep 32 0)) 8 (rep 32 0)) 0 (k_clamp v1 (8 : Int32) (32 : Int32)))])) lk_0_38 pd_0 rfl oid_0 rfl rfl rfl rfl rfl rfl ⟨rfl, rfl, rfl, rfl, rfl⟩ d5_95 (c_k_clamp v2 (1 : Int32) (3 : Int32) (sI (sA (sA (sA (sA (sA (sA (sA (sA (sA s0 0 (rep 256 0)) 1 (rep 32 0)) 2 (rep 32 0)) 3 (rep 32 0)) 4 (rep 32 0)) 5 (rep 32 0)) 6 (rep 32 0)) 7 (rep 32 0)) 8 (rep 32 0)) 0 (k_clamp v1 (8 : Int32) (32 : Int32)))) ?_
  refine go_putI (pc := 98) fs_46 hm_5 (wr_1 _) hn_5 d5_98 (go_aloadN (pc := 101) d5_101 rfl (go_aloadN (pc := 102) d5_102 rfl (go_iloadN (pc := 103) d5_103 rfl (go_iconst (pc := 104) d5_104 ci_0 (go_sipush (pc := 105) d5_105 cs_256 ?_)))))
  refine go_priv (pc := 108) (i := 0) (as := [.int v3, .int (0 : Int32), .int (256 : Int32)]) (rest := [.ref 1]) (w' := (none, [(9, sI (sI (sA (sA (sA (sA (sA (sA (sA (sA (sA s0 0 (rep 256 0)) 1 (rep 32 0)) 2 (rep 32 0)) 3 (rep 32 0)) 4 (rep 32 0)) 5 (rep 32 0)) 6 (rep 32 0)) 7 (rep 32 0)) 8 (rep 32 0)) 0 (k_clamp v1 (8 : Int32) (32 : Int32))) 1 (k_clamp v2 (1 : Int32) (3 : Int32)))])) lk_0_38 pd_0 rfl oid_0 rfl rfl rfl rfl rfl rfl ⟨rfl, rfl, rfl, rfl, rfl⟩ d5_108 (c_k_clamp v3 (0 : Int32) (256 : Int32) (sI (sI (sA (sA (sA (sA (sA (sA (sA (sA (sA s0 0 (rep 256 0)) 1 (rep 32 0)) 2 (rep 32 0)) 3 (rep 32 0)) 4 (rep 32 0)) 5 (rep 32 0)) 6 (rep 32 0)) 7 (rep 32 0)) 8 (rep 32 0)) 0 (k_clamp v1 (8 : Int32) (32 : Int32))) 1 (k_clamp v2 (1 : Int32) (3 : Int32)))) ?_
  refine go_putI (pc := 111) fs_49 hm_5 (wr_2 _) hn_5 d5_111 (go_aloadN (pc := 114) d5_114 rfl (go_bipush (pc := 115) d5_115 cb_8 (go_aloadN (pc := 117) d5_117 rfl (go_getI (pc := 118) fs_42 hm_5 d5_118 (go_imul (pc := 121) d5_121 (go_putI (pc := 122) fs_52 hm_5 (wr_3 _) hn_5 d5_122 (go_aloadN (pc := 125) d5_125 rfl ?_)))))))
  obtain ⟨r126, e10, hf⟩ := Option.bind_eq_some_iff.mp hf
  refine go_priv (pc := 126) (i := 0) (as := []) (rest := []) (w' := (none, [(9, r126)])) lk_0_55 pd_1 rfl oid_0 rfl rfl rfl rfl rfl rfl ⟨rfl, rfl, rfl, rfl, rfl⟩ d5_126 (c_k_resetArena (sI (sI (sI (sI (sA (sA (sA (sA (sA (sA (sA (sA (sA s0 0 (rep 256 0)) 1 (rep 32 0)) 2 (rep 32 0)) 3 (rep 32 0)) 4 (rep 32 0)) 5 (rep 32 0)) 6 (rep 32 0)) 7 (rep 32 0)) 8 (rep 32 0)) 0 (k_clamp v1 (8 : Int32) (32 : Int32))) 1 (k_clamp v2 (1 : Int32) (3 : Int32))) 2 (k_clamp v3 (0 : Int32) (256 : Int32))) 3 ((8 : Int32) * (k_clamp v1 (8 : Int32) (32 : Int32)))) _ e10) ?_
  refine go_aloadN (pc := 129) d5_129 rfl ?_
  obtain ⟨r130, e11, hf⟩ := Option.bind_eq_some_iff.mp hf
  refine go_priv (pc := 130) (i := 0) (as := []) (rest := []) (w' := (none, [(9, r130)])) lk_0_58 pd_2 rfl oid_0 rfl rfl rfl rfl rfl rfl ⟨rfl, rfl, rfl, rfl, rfl⟩ d5_130 (c_k_resetChunks r126 _ e11) ?_
  refine go_aloadN (pc := 133) d5_133 rfl ?_
  obtain ⟨r134, e12, hf⟩ := Option.bind_eq_some_iff.mp hf
  refine go_priv (pc := 134) (i := 0) (as := []) (rest := []) (w' := (none, [(9, r134)])) lk_0_61 pd_3 rfl oid_0 rfl rfl rfl rfl rfl rfl ⟨rfl, rfl, rfl, rfl, rfl⟩ d5_134 (c_k_resetQuarantine r130 _ e12) ?_
  refine go_aloadN (pc := 137) d5_137 rfl ?_
  obtain ⟨r138, e13, hf⟩ := Option.bind_eq_some_iff.mp hf
  refine go_priv (pc := 138) (i := 0) (as := []) (rest := []) (w' := (none, [(9, r138)])) lk_0_64 pd_4 rfl oid_0 rfl rfl rfl rfl rfl rfl ⟨rfl, rfl, rfl, rfl, rfl⟩ d5_138 (c_k_resetRuns r134 _ e13) ?_
  refine go_aloadN (pc := 141) d5_141 rfl (go_iconst (pc := 142) d5_142 ci_0 (go_putI (pc := 143) fs_67 hm_5 (wr_8 _) hn_5 d5_143 (go_aloadN (pc := 146) d5_146 rfl (go_lconst (pc := 147) d5_147 cl_0 (go_putJ (pc := 148) fs_70 hm_5 (wr_9 _) hn_5 d5_148 (go_aloadN (pc := 151) d5_151 rfl (go_iconst (pc := 152) d5_152 ci_0 ?_)))))))
  refine go_putI (pc := 153) fs_74 hm_5 (wr_10 _) hn_5 d5_153 (go_aloadN (pc := 156) d5_156 rfl (go_iconst (pc := 157) d5_157 ci_0 (go_putI (pc := 158) fs_77 hm_5 (wr_11 _) hn_5 d5_158 ?_)))
  cases hf
  exact go_ret (pc := 161) rfl d5_161
theorem c_k_init (v1 : Int32) (v2 : Int32) (v3 : Int32) (o : S) (hf : k_init v1 v2 v3 = some o) : Call PP m5 [.ref 1, .int v1, .int v2, .int v3] (none, [(0, s0)]) (none, (none, [(9, o)])) := call_of_go pl_0 rfl (fun _ => rfl) (k_init_ok v1 v2 v3   _ hf)
set_option maxRecDepth 65536 in
set_option maxHeartbeats 4000000 in
theorem k_userGranulesFor_ok  {s : S} : ∀ (v1 : Int32)   (o : Int32), k_userGranulesFor v1 = some o → Go PP m6 0 [.val (.ref 1), .val (.int v1)] [] (none, [(9, s)]) (some (.int o), (none, [(9, s)])) := by
  intro v1 o hf
  unfold k_userGranulesFor at hf
  refine go_iloadN (pc := 0) d6_0 rfl (go_bipush (pc := 1) d6_1 cb_7 (go_iadd (pc := 3) d6_3 (go_bipush (pc := 4) d6_4 cb_8 (go_idiv (pc := 6) d6_6 (by decide) ?_))))
  cases hf
  exact go_iret (pc := 7) rfl d6_7
theorem c_k_userGranulesFor (v1 : Int32) (s : S) (o : Int32) (hf : k_userGranulesFor v1 = some o) : Call PP m6 [.ref 1, .int v1] (none, [(9, s)]) (some (.int o), (none, [(9, s)])) := call_of_go pl_0 rfl (fun h => nomatch h) (k_userGranulesFor_ok v1   _ hf)
set_option maxRecDepth 65536 in
set_option maxHeartbeats 4000000 in
theorem k_spanFor_ok  : ∀ (v1 : Int32) (s : S)  (o : Int32), k_spanFor v1 s = some o → Go PP m7 0 [.val (.ref 1), .val (.int v1)] [] (none, [(9, s)]) (some (.int o), (none, [(9, s)])) := by
  intro v1 s o hf
  unfold k_spanFor at hf
  refine go_iconst (pc := 0) d7_0 ci_2 (go_aloadN (pc := 1) d7_1 rfl (go_getI (pc := 2) fs_46 hm_7 d7_2 (go_imul (pc := 5) d7_5 (go_aloadN (pc := 6) d7_6 rfl (go_iloadN (pc := 7) d7_7 rfl ?_)))))
  obtain ⟨r8, e1, hf⟩ := Option.bind_eq_some_iff.mp hf
  refine go_priv (pc := 8) (i := 0) (as := [.int v1]) (rest := [.int ((2 : Int32) * (gI s 1))]) (w' := (none, [(9, s)])) lk_0_148 pd_6 rfl oid_0 rfl rfl rfl rfl rfl rfl ⟨rfl, rfl, rfl, rfl, rfl⟩ d7_8 (c_k_userGranulesFor v1 s _ e1) ?_
  refine go_iadd (pc := 11) d7_11 ?_
  cases hf
  exact go_iret (pc := 12) rfl d7_12
theorem c_k_spanFor (v1 : Int32) (s : S) (o : Int32) (hf : k_spanFor v1 s = some o) : Call PP m7 [.ref 1, .int v1] (none, [(9, s)]) (some (.int o), (none, [(9, s)])) := call_of_go pl_0 rfl (fun h => nomatch h) (k_spanFor_ok v1 s   _ hf)
set_option maxRecDepth 65536 in
set_option maxHeartbeats 4000000 in
theorem k_findFitRun_2_ok  : ∀ (n : Nat) (v1 : Int32) (v2 : Int32) (s : S)  (o : Int32), k_findFitRun_2 n v1 v2 s = some o → Go PP m8 2 [.val (.ref 1), .val (.int v1), .val (.int v2)] [] (none, [(9, s)]) (some (.int o), (none, [(9, s)])) := by
  intro n
  induction n with
  | zero => intro v1 v2 s o hf; exact nomatch hf
  | succ n ih =>
    intro v1 v2 s o hf
    unfold k_findFitRun_2 at hf
    refine go_iloadN (pc := 2) d8_2 rfl (go_aloadN (pc := 3) d8_3 rfl (go_getI (pc := 4) fs_145 hm_8 d8_4 ?_))
    by_cases h1 : v2 < (gI s 7)
    · replace hf := (if_pos h1).symm.trans hf
      refine go_icN (pc := 7) d8_7 (XT.ii_ge_f h1) ?_
      refine go_iloadN (pc := 10) d8_10 rfl (go_bipush (pc := 11) d8_11 cb_32 ?_)
      by_cases h2 : v2 < (32 : Int32)
      · replace hf := (if_pos h2).symm.trans hf
        refine go_icN (pc := 13) d8_13 (XT.ii_ge_f h2) ?_
        refine go_aloadN (pc := 16) d8_16 rfl (go_getA (pc := 17) fa_35 hm_8 d8_17 rfl (go_iloadN (pc := 20) d8_20 rfl ?_))
        obtain ⟨a21, e3, hf⟩ := Option.bind_eq_some_iff.mp hf
        refine go_iaload (pc := 21) (q := 8) ar_8 rfl e3 d8_21 ?_
        refine go_iloadN (pc := 22) d8_22 rfl ?_
        by_cases h4 : a21 < v1
        · replace hf := (if_pos h4).symm.trans hf
          refine go_icY (pc := 23) (pc' := 28) d8_23 (XT.ii_lt_t h4) j_23_5 ?_
          refine go_iinc (pc := 28) (L' := [.val (.ref 1), .val (.int v1), .val (.int (v2 + (1 : Int32)))]) d8_28 rfl ci_1 rfl (go_goto (pc := 31) (pc' := 2) d8_31 j_31_m29 ?_)
          exact ih v1 (v2 + (1 : Int32)) s _ hf
        · replace hf := (if_neg h4).symm.trans hf
          refine go_icN (pc := 23) d8_23 (XT.ii_lt_f h4) ?_
          refine go_iloadN (pc := 26) d8_26 rfl ?_
          cases hf
          exact go_iret (pc := 27) rfl d8_27
      · replace hf := (if_neg h2).symm.trans hf
        refine go_icY (pc := 13) (pc' := 34) d8_13 (XT.ii_ge_t h2) j_13_21 ?_
        refine go_iconst (pc := 34) d8_34 ci_m1 ?_
        cases hf
        exact go_iret (pc := 35) rfl d8_35
    · replace hf := (if_neg h1).symm.trans hf
      refine go_icY (pc := 7) (pc' := 34) d8_7 (XT.ii_ge_t h1) j_7_27 ?_
      refine go_iconst (pc := 34) d8_34 ci_m1 ?_
      cases hf
      exact go_iret (pc := 35) rfl d8_35
set_option maxRecDepth 65536 in
set_option maxHeartbeats 4000000 in
theorem k_findFitRun_ok  : ∀ (v1 : Int32) (s : S)  (o : Int32), k_findFitRun v1 s = some o → Go PP m8 0 [.val (.ref 1), .val (.int v1), .unset] [] (none, [(9, s)]) (some (.int o), (none, [(9, s)])) := by
  intro v1 s o hf
  unfold k_findFitRun at hf
  refine go_iconst (pc := 0) d8_0 ci_0 (go_istoreN (pc := 1) (L' := [.val (.ref 1), .val (.int v1), .val (.int (0 : Int32))]) d8_1 rfl ?_)
  exact k_findFitRun_2_ok BIG v1 (0 : Int32) s _ hf
theorem c_k_findFitRun (v1 : Int32) (s : S) (o : Int32) (hf : k_findFitRun v1 s = some o) : Call PP m8 [.ref 1, .int v1] (none, [(9, s)]) (some (.int o), (none, [(9, s)])) := call_of_go pl_0 rfl (fun h => nomatch h) (k_findFitRun_ok v1 s   _ hf)
set_option maxRecDepth 65536 in
set_option maxHeartbeats 4000000 in
theorem k_validSlot_ok  {s : S} : ∀ (v1 : Int32)   (o : Int32), k_validSlot v1 = o → Go PP m9 0 [.val (.ref 1), .val (.int v1)] [] (none, [(9, s)]) (some (.int o), (none, [(9, s)])) := by
  intro v1 o hf
  unfold k_validSlot at hf
  refine go_iloadN (pc := 0) d9_0 rfl ?_
  by_cases h1 : v1 < 0
  · replace hf := (if_pos h1).symm.trans hf
    refine go_ifY (pc := 1) (pc' := 14) d9_1 (XT.i0_lt_t h1) j_1_13 ?_
    refine go_iconst (pc := 14) d9_14 ci_0 ?_
    cases hf
    exact go_zret (pc := 15) rfl d9_15 (show (0 : Int32) = nar .boolean (0 : Int32) by decide)
  · replace hf := (if_neg h1).symm.trans hf
    refine go_ifN (pc := 1) d9_1 (XT.i0_lt_f h1) ?_
    refine go_iloadN (pc := 4) d9_4 rfl (go_bipush (pc := 5) d9_5 cb_32 ?_)
    by_cases h2 : v1 < (32 : Int32)
    · replace hf := (if_pos h2).symm.trans hf
      refine go_icN (pc := 7) d9_7 (XT.ii_ge_f h2) ?_
      refine go_iconst (pc := 10) d9_10 ci_1 (go_goto (pc := 11) (pc' := 15) d9_11 j_11_4 ?_)
      cases hf
      exact go_zret (pc := 15) rfl d9_15 (show (1 : Int32) = nar .boolean (1 : Int32) by decide)
    · replace hf := (if_neg h2).symm.trans hf
      refine go_icY (pc := 7) (pc' := 14) d9_7 (XT.ii_ge_t h2) j_7_7 ?_
      refine go_iconst (pc := 14) d9_14 ci_0 ?_
      cases hf
      exact go_zret (pc := 15) rfl d9_15 (show (0 : Int32) = nar .boolean (0 : Int32) by decide)
theorem c_k_validSlot (v1 : Int32) (s : S) : Call PP m9 [.ref 1, .int v1] (none, [(9, s)]) (some (.int (k_validSlot v1)), (none, [(9, s)])) := call_of_go pl_0 rfl (fun h => nomatch h) (k_validSlot_ok v1   _ rfl)
set_option maxRecDepth 65536 in
set_option maxHeartbeats 4000000 in
theorem k_weightOf_ok  : ∀ (v1 : Int32) (s : S)  (o : Int32), k_weightOf v1 s = some o → Go PP m10 0 [.val (.ref 1), .val (.int v1), .unset] [] (none, [(9, s)]) (some (.int o), (none, [(9, s)])) := by
  intro v1 s o hf
  unfold k_weightOf at hf
  refine go_aloadN (pc := 0) d10_0 rfl (go_iloadN (pc := 1) d10_1 rfl ?_)
  refine go_priv (pc := 2) (i := 0) (as := [.int v1]) (rest := []) (w' := (none, [(9, s)])) lk_0_139 pd_9 rfl oid_0 rfl rfl rfl rfl rfl rfl ⟨rfl, rfl, rfl, rfl, rfl⟩ d10_2 (c_k_validSlot v1 s) ?_
  by_cases h1 : (k_validSlot v1) = 0
  · replace hf := (if_pos h1).symm.trans hf
    refine go_ifN (pc := 5) d10_5 (XT.i0_ne_f h1) ?_
    refine go_iconst (pc := 8) d10_8 ci_0 ?_
    cases hf
    exact go_iret (pc := 9) rfl d10_9
  · replace hf := (if_neg h1).symm.trans hf
    refine go_ifY (pc := 5) (pc' := 10) d10_5 (XT.i0_ne_t h1) j_5_5 ?_
    refine go_aloadN (pc := 10) d10_10 rfl (go_getA (pc := 11) fa_23 hm_10 d10_11 rfl (go_iloadN (pc := 14) d10_14 rfl ?_))
    obtain ⟨a15, e2, hf⟩ := Option.bind_eq_some_iff.mp hf
    refine go_iaload (pc := 15) (q := 4) ar_4 rfl e2 d10_15 ?_
    refine go_istoreN (pc := 16) (L' := [.val (.ref 1), .val (.int v1), .val (.int a15)]) d10_16 rfl (go_bipush (pc := 17) d10_17 cb_8 (go_aloadN (pc := 19) d10_19 rfl (go_iloadN (pc := 20) d10_20 rfl ?_)))
    obtain ⟨r21, e3, hf⟩ := Option.bind_eq_some_iff.mp hf
    refine go_priv (pc := 21) (i := 0) (as := [.int a15]) (rest := [.int (8 : Int32)]) (w' := (none, [(9, s)])) lk_0_80 pd_7 rfl oid_0 rfl rfl rfl rfl rfl rfl ⟨rfl, rfl, rfl, rfl, rfl⟩ d10_21 (c_k_spanFor a15 s _ e3) ?_
    refine go_imul (pc := 24) d10_24 ?_
    cases hf
    exact go_iret (pc := 25) rfl d10_25
theorem c_k_weightOf (v1 : Int32) (s : S) (o : Int32) (hf : k_weightOf v1 s = some o) : Call PP m10 [.ref 1, .int v1] (none, [(9, s)]) (some (.int o), (none, [(9, s)])) := call_of_go pl_0 rfl (fun h => nomatch h) (k_weightOf_ok v1 s   _ hf)
set_option maxRecDepth 65536 in
set_option maxHeartbeats 4000000 in
theorem k_isQuarantined_ok  : ∀ (v1 : Int32) (s : S)  (o : Int32), k_isQuarantined v1 s = some o → Go PP m11 0 [.val (.ref 1), .val (.int v1)] [] (none, [(9, s)]) (some (.int o), (none, [(9, s)])) := by
  intro v1 s o hf
  unfold k_isQuarantined at hf
  refine go_aloadN (pc := 0) d11_0 rfl (go_iloadN (pc := 1) d11_1 rfl ?_)
  refine go_priv (pc := 2) (i := 0) (as := [.int v1]) (rest := []) (w' := (none, [(9, s)])) lk_0_139 pd_9 rfl oid_0 rfl rfl rfl rfl rfl rfl ⟨rfl, rfl, rfl, rfl, rfl⟩ d11_2 (c_k_validSlot v1 s) ?_
  by_cases h1 : (k_validSlot v1) = 0
  · replace hf := (if_pos h1).symm.trans hf
    refine go_ifY (pc := 5) (pc' := 22) d11_5 (XT.i0_eq_t h1) j_5_17 ?_
    refine go_iconst (pc := 22) d11_22 ci_0 ?_
    cases hf
    exact go_zret (pc := 23) rfl d11_23 (show (0 : Int32) = nar .boolean (0 : Int32) by decide)
  · replace hf := (if_neg h1).symm.trans hf
    refine go_ifN (pc := 5) d11_5 (XT.i0_eq_f h1) ?_
    refine go_aloadN (pc := 8) d11_8 rfl (go_getA (pc := 9) fa_26 hm_11 d11_9 rfl (go_iloadN (pc := 12) d11_12 rfl ?_))
    obtain ⟨a13, e2, hf⟩ := Option.bind_eq_some_iff.mp hf
    refine go_baload (pc := 13) (q := 5) ar_5 (by decide) rfl e2 d11_13 ?_
    refine go_iconst (pc := 14) d11_14 ci_2 ?_
    by_cases h3 : a13 = (2 : Int32)
    · replace hf := (if_pos h3).symm.trans hf
      refine go_icN (pc := 15) d11_15 (XT.ii_ne_f h3) ?_
      refine go_iconst (pc := 18) d11_18 ci_1 (go_goto (pc := 19) (pc' := 23) d11_19 j_19_4 ?_)
      cases hf
      exact go_zret (pc := 23) rfl d11_23 (show (1 : Int32) = nar .boolean (1 : Int32) by decide)
    · replace hf := (if_neg h3).symm.trans hf
      refine go_icY (pc := 15) (pc' := 22) d11_15 (XT.ii_ne_t h3) j_15_7 ?_
      refine go_iconst (pc := 22) d11_22 ci_0 ?_
      cases hf
      exact go_zret (pc := 23) rfl d11_23 (show (0 : Int32) = nar .boolean (0 : Int32) by decide)
theorem c_k_isQuarantined (v1 : Int32) (s : S) (o : Int32) (hf : k_isQuarantined v1 s = some o) : Call PP m11 [.ref 1, .int v1] (none, [(9, s)]) (some (.int o), (none, [(9, s)])) := call_of_go pl_0 rfl (fun h => nomatch h) (k_isQuarantined_ok v1 s   _ hf)
set_option maxRecDepth 65536 in
set_option maxHeartbeats 4000000 in
theorem k_paintRange_3_ok  : ∀ (n : Nat) (v1 : Int32) (v2 : Int32) (v3 : Int32) (v4 : Int32) (s : S) (x5 : Slot) (hx5 : k1 x5) (o : S), k_paintRange_3 n v1 v2 v3 v4 s = some o → Go PP m12 3 [.val (.ref 1), .val (.int v1), .val (.int v2), .val (.int v3), .val (.int v4), x5] [] (none, [(9, s)]) (none, (none, [(9, o)])) := by
  intro n
  induction n with
  | zero => intro v1 v2 v3 v4 s x5 hx5 o hf; exact nomatch hf
  | succ n ih =>
    intro v1 v2 v3 v4 s x5 hx5 o hf
    unfold k_paintRange_3 at hf
    refine go_iload (pc := 3) d12_3 rfl (go_iloadN (pc := 5) d12_5 rfl ?_)
    by_cases h1 : v4 < v2
    · replace hf := (if_pos h1).symm.trans hf
      refine go_icN (pc := 6) d12_6 (XT.ii_ge_f h1) ?_
      refine go_iload (pc := 9) d12_9 rfl (go_bipush (pc := 11) d12_11 cb_32 ?_)
      by_cases h2 : v4 < (32 : Int32)
      · replace hf := (if_pos h2).symm.trans hf
        refine go_icN (pc := 13) d12_13 (XT.ii_ge_f h2) ?_
        refine go_iloadN (pc := 16) d12_16 rfl (go_iload (pc := 17) d12_17 rfl (go_iadd (pc := 19) d12_19 (go_istore (pc := 20) (L' := [.val (.ref 1), .val (.int v1), .val (.int v2), .val (.int v3), .val (.int v4), .val (.int (v1 + v4))]) d12_20 (stx rfl hx5 rfl) (go_iload (pc := 22) d12_22 rfl ?_))))
        by_cases h3 : (v1 + v4) < 0
        · replace hf := (if_pos h3).symm.trans hf
          refine go_ifY (pc := 24) (pc' := 44) d12_24 (XT.i0_lt_t h3) j_24_20 ?_
          refine go_iinc (pc := 44) (L' := [.val (.ref 1), .val (.int v1), .val (.int v2), .val (.int v3), .val (.int (v4 + (1 : Int32))), .val (.int (v1 + v4))]) d12_44 rfl ci_1 rfl (go_goto (pc := 47) (pc' := 3) d12_47 j_47_m44 ?_)
          exact ih v1 v2 v3 (v4 + (1 : Int32)) s (.val (.int (v1 + v4))) (Or.inr ⟨_, rfl, rfl⟩) _ hf
        · replace hf := (if_neg h3).symm.trans hf
          refine go_ifN (pc := 24) d12_24 (XT.i0_lt_f h3) ?_
          refine go_iload (pc := 27) d12_27 rfl (go_aloadN (pc := 29) d12_29 rfl (go_getI (pc := 30) fs_42 hm_12 d12_30 ?_))
          by_cases h4 : (v1 + v4) < (gI s 0)
          · replace hf := (if_pos h4).symm.trans hf
            refine go_icN (pc := 33) d12_33 (XT.ii_ge_f h4) ?_
            refine go_aloadN (pc := 36) d12_36 rfl (go_getA (pc := 37) fa_13 hm_12 d12_37 rfl (go_iload (pc := 40) d12_40 rfl (go_iloadN (pc := 42) d12_42 rfl ?_)))
            obtain ⟨a43, e5, hf⟩ := Option.bind_eq_some_iff.mp hf
            refine go_iastore (pc := 43) (q := 1) ar_1 rfl hn_12 e5 d12_43 ?_
            refine go_iinc (pc := 44) (L' := [.val (.ref 1), .val (.int v1), .val (.int v2), .val (.int v3), .val (.int (v4 + (1 : Int32))), .val (.int (v1 + v4))]) d12_44 rfl ci_1 rfl (go_goto (pc := 47) (pc' := 3) d12_47 j_47_m44 ?_)
            exact ih v1 v2 v3 (v4 + (1 : Int32)) (sA s 1 a43) (.val (.int (v1 + v4))) (Or.inr ⟨_, rfl, rfl⟩) _ hf
          · replace hf := (if_neg h4).symm.trans hf
            refine go_icY (pc := 33) (pc' := 44) d12_33 (XT.ii_ge_t h4) j_33_11 ?_
            refine go_iinc (pc := 44) (L' := [.val (.ref 1), .val (.int v1), .val (.int v2), .val (.int v3), .val (.int (v4 + (1 : Int32))), .val (.int (v1 + v4))]) d12_44 rfl ci_1 rfl (go_goto (pc := 47) (pc' := 3) d12_47 j_47_m44 ?_)
            exact ih v1 v2 v3 (v4 + (1 : Int32)) s (.val (.int (v1 + v4))) (Or.inr ⟨_, rfl, rfl⟩) _ hf
      · replace hf := (if_neg h2).symm.trans hf
        refine go_icY (pc := 13) (pc' := 50) d12_13 (XT.ii_ge_t h2) j_13_37 ?_
        cases hf
        exact go_ret (pc := 50) rfl d12_50
    · replace hf := (if_neg h1).symm.trans hf
      refine go_icY (pc := 6) (pc' := 50) d12_6 (XT.ii_ge_t h1) j_6_44 ?_
      cases hf
      exact go_ret (pc := 50) rfl d12_50
set_option maxRecDepth 65536 in
set_option maxHeartbeats 4000000 in
theorem k_paintRange_ok  : ∀ (v1 : Int32) (v2 : Int32) (v3 : Int32) (s : S)  (o : S), k_paintRange v1 v2 v3 s = some o → Go PP m12 0 [.val (.ref 1), .val (.int v1), .val (.int v2), .val (.int v3), .unset, .unset] [] (none, [(9, s)]) (none, (none, [(9, o)])) := by
  intro v1 v2 v3 s o hf
  unfold k_paintRange at hf
  refine go_iconst (pc := 0) d12_0 ci_0 (go_istore (pc := 1) (L' := [.val (.ref 1), .val (.int v1), .val (.int v2), .val (.int v3), .val (.int (0 : Int32)), .unset]) d12_1 rfl ?_)
  exact k_paintRange_3_ok BIG v1 v2 v3 (0 : Int32) s .unset (Or.inl rfl) _ hf
theorem c_k_paintRange (v1 : Int32) (v2 : Int32) (v3 : Int32) (s : S) (o : S) (hf : k_paintRange v1 v2 v3 s = some o) : Call PP m12 [.ref 1, .int v1, .int v2, .int v3] (none, [(9, s)]) (none, (none, [(9, o)])) := call_of_go pl_0 rfl (fun _ => rfl) (k_paintRange_ok v1 v2 v3 s   _ hf)
set_option maxRecDepth 65536 in
set_option maxHeartbeats 4000000 in
theorem k_setOwner_3_ok  : ∀ (n : Nat) (v1 : Int32) (v2 : Int32) (v3 : Int32) (v4 : Int32) (s : S) (x5 : Slot) (hx5 : k1 x5) (o : S), k_setOwner_3 n v1 v2 v3 v4 s = some o → Go PP m13 3 [.val (.ref 1), .val (.int v1), .val (.int v2), .val (.int v3), .val (.int v4), x5] [] (none, [(9, s)]) (none, (none, [(9, o)])) := by
  intro n
  induction n with
  | zero => intro v1 v2 v3 v4 s x5 hx5 o hf; exact nomatch hf
  | succ n ih =>
    intro v1 v2 v3 v4 s x5 hx5 o hf
    unfold k_setOwner_3 at hf
    refine go_iload (pc := 3) d13_3 rfl (go_iloadN (pc := 5) d13_5 rfl ?_)
    by_cases h1 : v4 < v2
    · replace hf := (if_pos h1).symm.trans hf
      refine go_icN (pc := 6) d13_6 (XT.ii_ge_f h1) ?_
      refine go_iload (pc := 9) d13_9 rfl (go_bipush (pc := 11) d13_11 cb_32 ?_)
      by_cases h2 : v4 < (32 : Int32)
      · replace hf := (if_pos h2).symm.trans hf
        refine go_icN (pc := 13) d13_13 (XT.ii_ge_f h2) ?_
        refine go_iloadN (pc := 16) d13_16 rfl (go_iload (pc := 17) d13_17 rfl (go_iadd (pc := 19) d13_19 (go_istore (pc := 20) (L' := [.val (.ref 1), .val (.int v1), .val (.int v2), .val (.int v3), .val (.int v4), .val (.int (v1 + v4))]) d13_20 (stx rfl hx5 rfl) (go_iload (pc := 22) d13_22 rfl ?_))))
        by_cases h3 : (v1 + v4) < 0
        · replace hf := (if_pos h3).symm.trans hf
          refine go_ifY (pc := 24) (pc' := 44) d13_24 (XT.i0_lt_t h3) j_24_20 ?_
          refine go_iinc (pc := 44) (L' := [.val (.ref 1), .val (.int v1), .val (.int v2), .val (.int v3), .val (.int (v4 + (1 : Int32))), .val (.int (v1 + v4))]) d13_44 rfl ci_1 rfl (go_goto (pc := 47) (pc' := 3) d13_47 j_47_m44 ?_)
          exact ih v1 v2 v3 (v4 + (1 : Int32)) s (.val (.int (v1 + v4))) (Or.inr ⟨_, rfl, rfl⟩) _ hf
        · replace hf := (if_neg h3).symm.trans hf
          refine go_ifN (pc := 24) d13_24 (XT.i0_lt_f h3) ?_
          refine go_iload (pc := 27) d13_27 rfl (go_aloadN (pc := 29) d13_29 rfl (go_getI (pc := 30) fs_42 hm_13 d13_30 ?_))
          by_cases h4 : (v1 + v4) < (gI s 0)
          · replace hf := (if_pos h4).symm.trans hf
            refine go_icN (pc := 33) d13_33 (XT.ii_ge_f h4) ?_
            refine go_aloadN (pc := 36) d13_36 rfl (go_getA (pc := 37) fa_17 hm_13 d13_37 rfl (go_iload (pc := 40) d13_40 rfl (go_iloadN (pc := 42) d13_42 rfl ?_)))
            obtain ⟨a43, e5, hf⟩ := Option.bind_eq_some_iff.mp hf
            refine go_iastore (pc := 43) (q := 2) ar_2 rfl hn_13 e5 d13_43 ?_
            refine go_iinc (pc := 44) (L' := [.val (.ref 1), .val (.int v1), .val (.int v2), .val (.int v3), .val (.int (v4 + (1 : Int32))), .val (.int (v1 + v4))]) d13_44 rfl ci_1 rfl (go_goto (pc := 47) (pc' := 3) d13_47 j_47_m44 ?_)
            exact ih v1 v2 v3 (v4 + (1 : Int32)) (sA s 2 a43) (.val (.int (v1 + v4))) (Or.inr ⟨_, rfl, rfl⟩) _ hf
          · replace hf := (if_neg h4).symm.trans hf
            refine go_icY (pc := 33) (pc' := 44) d13_33 (XT.ii_ge_t h4) j_33_11 ?_
            refine go_iinc (pc := 44) (L' := [.val (.ref 1), .val (.int v1), .val (.int v2), .val (.int v3), .val (.int (v4 + (1 : Int32))), .val (.int (v1 + v4))]) d13_44 rfl ci_1 rfl (go_goto (pc := 47) (pc' := 3) d13_47 j_47_m44 ?_)
            exact ih v1 v2 v3 (v4 + (1 : Int32)) s (.val (.int (v1 + v4))) (Or.inr ⟨_, rfl, rfl⟩) _ hf
      · replace hf := (if_neg h2).symm.trans hf
        refine go_icY (pc := 13) (pc' := 50) d13_13 (XT.ii_ge_t h2) j_13_37 ?_
        cases hf
        exact go_ret (pc := 50) rfl d13_50
    · replace hf := (if_neg h1).symm.trans hf
      refine go_icY (pc := 6) (pc' := 50) d13_6 (XT.ii_ge_t h1) j_6_44 ?_
      cases hf
      exact go_ret (pc := 50) rfl d13_50
set_option maxRecDepth 65536 in
set_option maxHeartbeats 4000000 in
theorem k_setOwner_ok  : ∀ (v1 : Int32) (v2 : Int32) (v3 : Int32) (s : S)  (o : S), k_setOwner v1 v2 v3 s = some o → Go PP m13 0 [.val (.ref 1), .val (.int v1), .val (.int v2), .val (.int v3), .unset, .unset] [] (none, [(9, s)]) (none, (none, [(9, o)])) := by
  intro v1 v2 v3 s o hf
  unfold k_setOwner at hf
  refine go_iconst (pc := 0) d13_0 ci_0 (go_istore (pc := 1) (L' := [.val (.ref 1), .val (.int v1), .val (.int v2), .val (.int v3), .val (.int (0 : Int32)), .unset]) d13_1 rfl ?_)
  exact k_setOwner_3_ok BIG v1 v2 v3 (0 : Int32) s .unset (Or.inl rfl) _ hf
theorem c_k_setOwner (v1 : Int32) (v2 : Int32) (v3 : Int32) (s : S) (o : S) (hf : k_setOwner v1 v2 v3 s = some o) : Call PP m13 [.ref 1, .int v1, .int v2, .int v3] (none, [(9, s)]) (none, (none, [(9, o)])) := call_of_go pl_0 rfl (fun _ => rfl) (k_setOwner_ok v1 v2 v3 s   _ hf)
set_option maxRecDepth 65536 in
set_option maxHeartbeats 4000000 in
theorem k_runInsertPosition_2_ok  : ∀ (n : Nat) (v1 : Int32) (v2 : Int32) (s : S)  (o : Int32), k_runInsertPosition_2 n v1 v2 s = some o → Go PP m14 2 [.val (.ref 1), .val (.int v1), .val (.int v2)] [] (none, [(9, s)]) (some (.int o), (none, [(9, s)])) := by
  intro n
  induction n with
  | zero => intro v1 v2 s o hf; exact nomatch hf
  | succ n ih =>
    intro v1 v2 s o hf
    unfold k_runInsertPosition_2 at hf
    refine go_iloadN (pc := 2) d14_2 rfl (go_aloadN (pc := 3) d14_3 rfl (go_getI (pc := 4) fs_145 hm_14 d14_4 ?_))
    by_cases h1 : v2 < (gI s 7)
    · replace hf := (if_pos h1).symm.trans hf
      refine go_icN (pc := 7) d14_7 (XT.ii_ge_f h1) ?_
      refine go_iloadN (pc := 10) d14_10 rfl (go_bipush (pc := 11) d14_11 cb_32 ?_)
      by_cases h2 : v2 < (32 : Int32)
      · replace hf := (if_pos h2).symm.trans hf
        refine go_icN (pc := 13) d14_13 (XT.ii_ge_f h2) ?_
        refine go_aloadN (pc := 16) d14_16 rfl (go_getA (pc := 17) fa_32 hm_14 d14_17 rfl (go_iloadN (pc := 20) d14_20 rfl ?_))
        obtain ⟨a21, e3, hf⟩ := Option.bind_eq_some_iff.mp hf
        refine go_iaload (pc := 21) (q := 7) ar_7 rfl e3 d14_21 ?_
        refine go_iloadN (pc := 22) d14_22 rfl ?_
        by_cases h4 : v1 < a21
        · replace hf := (if_pos h4).symm.trans hf
          refine go_icN (pc := 23) d14_23 (XT.ii_le_f h4) ?_
          refine go_iloadN (pc := 26) d14_26 rfl ?_
          cases hf
          exact go_iret (pc := 27) rfl d14_27
        · replace hf := (if_neg h4).symm.trans hf
          refine go_icY (pc := 23) (pc' := 28) d14_23 (XT.ii_le_t h4) j_23_5 ?_
          refine go_iinc (pc := 28) (L' := [.val (.ref 1), .val (.int v1), .val (.int (v2 + (1 : Int32)))]) d14_28 rfl ci_1 rfl (go_goto (pc := 31) (pc' := 2) d14_31 j_31_m29 ?_)
          exact ih v1 (v2 + (1 : Int32)) s _ hf
      · replace hf := (if_neg h2).symm.trans hf
        refine go_icY (pc := 13) (pc' := 34) d14_13 (XT.ii_ge_t h2) j_13_21 ?_
        refine go_aloadN (pc := 34) d14_34 rfl (go_getI (pc := 35) fs_145 hm_14 d14_35 ?_)
        cases hf
        exact go_iret (pc := 38) rfl d14_38
    · replace hf := (if_neg h1).symm.trans hf
      refine go_icY (pc := 7) (pc' := 34) d14_7 (XT.ii_ge_t h1) j_7_27 ?_
      refine go_aloadN (pc := 34) d14_34 rfl (go_getI (pc := 35) fs_145 hm_14 d14_35 ?_)
      cases hf
      exact go_iret (pc := 38) rfl d14_38
set_option maxRecDepth 65536 in
set_option maxHeartbeats 4000000 in
theorem k_runInsertPosition_ok  : ∀ (v1 : Int32) (s : S)  (o : Int32), k_runInsertPosition v1 s = some o → Go PP m14 0 [.val (.ref 1), .val (.int v1), .unset] [] (none, [(9, s)]) (some (.int o), (none, [(9, s)])) := by
  intro v1 s o hf
  unfold k_runInsertPosition at hf
  refine go_iconst (pc := 0) d14_0 ci_0 (go_istoreN (pc := 1) (L' := [.val (.ref 1), .val (.int v1), .val (.int (0 : Int32))]) d14_1 rfl ?_)
  exact k_runInsertPosition_2_ok BIG v1 (0 : Int32) s _ hf
theorem c_k_runInsertPosition (v1 : Int32) (s : S) (o : Int32) (hf : k_runInsertPosition v1 s = some o) : Call PP m14 [.ref 1, .int v1] (none, [(9, s)]) (some (.int o), (none, [(9, s)])) := call_of_go pl_0 rfl (fun h => nomatch h) (k_runInsertPosition_ok v1 s   _ hf)
set_option maxRecDepth 65536 in
set_option maxHeartbeats 4000000 in
theorem k_removeRun_65_ok  : ∀  (s : S) (x1 : Slot) (x2 : Slot) (hx1 : k1 x1) (hx2 : k1 x2) (o : S), k_removeRun_65 s = some o → Go PP m15 65 [.val (.ref 1), x1, x2] [] (none, [(9, s)]) (none, (none, [(9, o)])) := by
  intro s x1 x2 hx1 hx2 o hf
  unfold k_removeRun_65 at hf
  refine go_aloadN (pc := 65) d15_65 rfl (go_dupR (pc := 66) d15_66 (go_getI (pc := 67) fs_145 hm_15 d15_67 (go_iconst (pc := 70) d15_70 ci_1 (go_isub (pc := 71) d15_71 (go_putI (pc := 72) fs_145 hm_15 (wr_7 _) hn_15 d15_72 ?_)))))
  cases hf
  exact go_ret (pc := 75) rfl d15_75
set_option maxRecDepth 65536 in
set_option maxHeartbeats 4000000 in
theorem k_removeRun_15_ok  : ∀ (n : Nat) (v2 : Int32) (s : S) (x1 : Slot) (hx1 : k1 x1) (o : S), k_removeRun_15 n v2 s = some o → Go PP m15 15 [.val (.ref 1), x1, .val (.int v2)] [] (none, [(9, s)]) (none, (none, [(9, o)])) := by
  intro n
  induction n with
  | zero => intro v2 s x1 hx1 o hf; exact nomatch hf
  | succ n ih =>
    intro v2 s x1 hx1 o hf
    unfold k_removeRun_15 at hf
    refine go_iloadN (pc := 15) d15_15 rfl (go_aloadN (pc := 16) d15_16 rfl (go_getI (pc := 17) fs_145 hm_15 d15_17 (go_iconst (pc := 20) d15_20 ci_1 (go_isub (pc := 21) d15_21 ?_))))
    by_cases h1 : v2 < ((gI s 7) - (1 : Int32))
    · replace hf := (if_pos h1).symm.trans hf
      refine go_icN (pc := 22) d15_22 (XT.ii_ge_f h1) ?_
      refine go_iloadN (pc := 25) d15_25 rfl (go_bipush (pc := 26) d15_26 cb_31 ?_)
      by_cases h2 : v2 < (31 : Int32)
      · replace hf := (if_pos h2).symm.trans hf
        refine go_icN (pc := 28) d15_28 (XT.ii_ge_f h2) ?_
        refine go_aloadN (pc := 31) d15_31 rfl (go_getA (pc := 32) fa_32 hm_15 d15_32 rfl (go_iloadN (pc := 35) d15_35 rfl (go_aloadN (pc := 36) d15_36 rfl (go_getA (pc := 37) fa_32 hm_15 d15_37 rfl (go_iloadN (pc := 40) d15_40 rfl (go_iconst (pc := 41) d15_41 ci_1 (go_iadd (pc := 42) d15_42 ?_)))))))
        obtain ⟨a43, e3, hf⟩ := Option.bind_eq_some_iff.mp hf
        refine go_iaload (pc := 43) (q := 7) ar_7 rfl e3 d15_43 ?_
        obtain ⟨a44, e4, hf⟩ := Option.bind_eq_some_iff.mp hf
        refine go_iastore (pc := 44) (q := 7) ar_7 rfl hn_15 e4 d15_44 ?_
        refine go_aloadN (pc := 45) d15_45 rfl (go_getA (pc := 46) fa_35 hm_15 d15_46 rfl (go_iloadN (pc := 49) d15_49 rfl (go_aloadN (pc := 50) d15_50 rfl (go_getA (pc := 51) fa_35 hm_15 d15_51 rfl (go_iloadN (pc := 54) d15_54 rfl (go_iconst (pc := 55) d15_55 ci_1 (go_iadd (pc := 56) d15_56 ?_)))))))
        obtain ⟨a57, e5, hf⟩ := Option.bind_eq_some_iff.mp hf
        refine go_iaload (pc := 57) (q := 8) ar_8 rfl e5 d15_57 ?_
        obtain ⟨a58, e6, hf⟩ := Option.bind_eq_some_iff.mp hf
        refine go_iastore (pc := 58) (q := 8) ar_8 rfl hn_15 e6 d15_58 ?_
        refine go_iinc (pc := 59) (L' := [.val (.ref 1), x1, .val (.int (v2 + (1 : Int32)))]) d15_59 rfl ci_1 rfl (go_goto (pc := 62) (pc' := 15) d15_62 j_62_m47 ?_)
        exact ih (v2 + (1 : Int32)) (sA (sA s 7 a44) 8 a58) x1 hx1 _ hf
      · replace hf := (if_neg h2).symm.trans hf
        refine go_icY (pc := 28) (pc' := 65) d15_28 (XT.ii_ge_t h2) j_28_37 ?_
        exact k_removeRun_65_ok s x1 (.val (.int v2)) hx1 (Or.inr ⟨_, rfl, rfl⟩) _ hf
    · replace hf := (if_neg h1).symm.trans hf
      refine go_icY (pc := 22) (pc' := 65) d15_22 (XT.ii_ge_t h1) j_22_43 ?_
      exact k_removeRun_65_ok s x1 (.val (.int v2)) hx1 (Or.inr ⟨_, rfl, rfl⟩) _ hf
set_option maxRecDepth 65536 in
set_option maxHeartbeats 4000000 in
theorem k_removeRun_ok  : ∀ (v1 : Int32) (s : S)  (o : S), k_removeRun v1 s = some o → Go PP m15 0 [.val (.ref 1), .val (.int v1), .unset] [] (none, [(9, s)]) (none, (none, [(9, o)])) := by
  intro v1 s o hf
  unfold k_removeRun at hf
  refine go_iloadN (pc := 0) d15_0 rfl ?_
  by_cases h1 : v1 < 0
  · replace hf := (if_pos h1).symm.trans hf
    refine go_ifY (pc := 1) (pc' := 12) d15_1 (XT.i0_lt_t h1) j_1_11 ?_
    cases hf
    exact go_ret (pc := 12) rfl d15_12
  · replace hf := (if_neg h1).symm.trans hf
    refine go_ifN (pc := 1) d15_1 (XT.i0_lt_f h1) ?_
    refine go_iloadN (pc := 4) d15_4 rfl (go_aloadN (pc := 5) d15_5 rfl (go_getI (pc := 6) fs_145 hm_15 d15_6 ?_))
    by_cases h2 : v1 < (gI s 7)
    · replace hf := (if_pos h2).symm.trans hf
      refine go_icY (pc := 9) (pc' := 13) d15_9 (XT.ii_lt_t h2) j_9_4 ?_
      refine go_iloadN (pc := 13) d15_13 rfl (go_istoreN (pc := 14) (L' := [.val (.ref 1), .val (.int v1), .val (.int v1)]) d15_14 rfl ?_)
      exact k_removeRun_15_ok BIG v1 s (.val (.int v1)) (Or.inr ⟨_, rfl, rfl⟩) _ hf
    · replace hf := (if_neg h2).symm.trans hf
      refine go_icN (pc := 9) d15_9 (XT.ii_lt_f h2) ?_
      cases hf
      exact go_ret (pc := 12) rfl d15_12
theorem c_k_removeRun (v1 : Int32) (s : S) (o : S) (hf : k_removeRun v1 s = some o) : Call PP m15 [.ref 1, .int v1] (none, [(9, s)]) (none, (none, [(9, o)])) := call_of_go pl_0 rfl (fun _ => rfl) (k_removeRun_ok v1 s   _ hf)
set_option maxRecDepth 65536 in
set_option maxHeartbeats 4000000 in
theorem k_insertRun_77_ok  : ∀ (v1 : Int32) (v2 : Int32) (v3 : Int32) (s : S) (x4 : Slot) (hx4 : k1 x4) (o : S), k_insertRun_77 v1 v2 v3 s = some o → Go PP m16 77 [.val (.ref 1), .val (.int v1), .val (.int v2), .val (.int v3), x4] [] (none, [(9, s)]) (none, (none, [(9, o)])) := by
  intro v1 v2 v3 s x4 hx4 o hf
  unfold k_insertRun_77 at hf
  refine go_aloadN (pc := 77) d16_77 rfl (go_getA (pc := 78) fa_32 hm_16 d16_78 rfl (go_iloadN (pc := 81) d16_81 rfl (go_iloadN (pc := 82) d16_82 rfl ?_)))
  obtain ⟨a83, e1, hf⟩ := Option.bind_eq_some_iff.mp hf
  refine go_iastore (pc := 83) (q := 7) ar_7 rfl hn_16 e1 d16_83 ?_
  refine go_aloadN (pc := 84) d16_84 rfl (go_getA (pc := 85) fa_35 hm_16 d16_85 rfl (go_iloadN (pc := 88) d16_88 rfl (go_iloadN (pc := 89) d16_89 rfl ?_)))
  obtain ⟨a90, e2, hf⟩ := Option.bind_eq_some_iff.mp hf
  refine go_iastore (pc := 90) (q := 8) ar_8 rfl hn_16 e2 d16_90 ?_
  refine go_aloadN (pc := 91) d16_91 rfl (go_dupR (pc := 92) d16_92 (go_getI (pc := 93) fs_145 hm_16 d16_93 (go_iconst (pc := 96) d16_96 ci_1 (go_iadd (pc := 97) d16_97 (go_putI (pc := 98) fs_145 hm_16 (wr_7 _) hn_16 d16_98 ?_)))))
  cases hf
  exact go_ret (pc := 101) rfl d16_101
set_option maxRecDepth 65536 in
set_option maxHeartbeats 4000000 in
theorem k_insertRun_28_ok  : ∀ (n : Nat) (v1 : Int32) (v2 : Int32) (v3 : Int32) (v4 : Int32) (s : S)  (o : S), k_insertRun_28 n v1 v2 v3 v4 s = some o → Go PP m16 28 [.val (.ref 1), .val (.int v1), .val (.int v2), .val (.int v3), .val (.int v4)] [] (none, [(9, s)]) (none, (none, [(9, o)])) := by
  intro n
  induction n with
  | zero => intro v1 v2 v3 v4 s o hf; exact nomatch hf
  | succ n ih =>
    intro v1 v2 v3 v4 s o hf
    unfold k_insertRun_28 at hf
    refine go_iload (pc := 28) d16_28 rfl (go_iloadN (pc := 30) d16_30 rfl ?_)
    by_cases h1 : v1 < v4
    · replace hf := (if_pos h1).symm.trans hf
      refine go_icN (pc := 31) d16_31 (XT.ii_le_f h1) ?_
      refine go_iload (pc := 34) d16_34 rfl ?_
      by_cases h2 : 0 < v4
      · replace hf := (if_pos h2).symm.trans hf
        refine go_ifN (pc := 36) d16_36 (XT.i0_le_f h2) ?_
        refine go_aloadN (pc := 39) d16_39 rfl (go_getA (pc := 40) fa_32 hm_16 d16_40 rfl (go_iload (pc := 43) d16_43 rfl (go_aloadN (pc := 45) d16_45 rfl (go_getA (pc := 46) fa_32 hm_16 d16_46 rfl (go_iload (pc := 49) d16_49 rfl (go_iconst (pc := 51) d16_51 ci_1 (go_isub (pc := 52) d16_52 ?_)))))))
        obtain ⟨a53, e3, hf⟩ := Option.bind_eq_some_iff.mp hf
        refine go_iaload (pc := 53) (q := 7) ar_7 rfl e3 d16_53 ?_
        obtain ⟨a54, e4, hf⟩ := Option.bind_eq_some_iff.mp hf
        refine go_iastore (pc := 54) (q := 7) ar_7 rfl hn_16 e4 d16_54 ?_
        refine go_aloadN (pc := 55) d16_55 rfl (go_getA (pc := 56) fa_35 hm_16 d16_56 rfl (go_iload (pc := 59) d16_59 rfl (go_aloadN (pc := 61) d16_61 rfl (go_getA (pc := 62) fa_35 hm_16 d16_62 rfl (go_iload (pc := 65) d16_65 rfl (go_iconst (pc := 67) d16_67 ci_1 (go_isub (pc := 68) d16_68 ?_)))))))
        obtain ⟨a69, e5, hf⟩ := Option.bind_eq_some_iff.mp hf
        refine go_iaload (pc := 69) (q := 8) ar_8 rfl e5 d16_69 ?_
        obtain ⟨a70, e6, hf⟩ := Option.bind_eq_some_iff.mp hf
        refine go_iastore (pc := 70) (q := 8) ar_8 rfl hn_16 e6 d16_70 ?_
        refine go_iinc (pc := 71) (L' := [.val (.ref 1), .val (.int v1), .val (.int v2), .val (.int v3), .val (.int (v4 + (-1 : Int32)))]) d16_71 rfl ci_m1 rfl (go_goto (pc := 74) (pc' := 28) d16_74 j_74_m46 ?_)
        exact ih v1 v2 v3 (v4 + (-1 : Int32)) (sA (sA s 7 a54) 8 a70) _ hf
      · replace hf := (if_neg h2).symm.trans hf
        refine go_ifY (pc := 36) (pc' := 77) d16_36 (XT.i0_le_t h2) j_36_41 ?_
        exact k_insertRun_77_ok v1 v2 v3 s (.val (.int v4)) (Or.inr ⟨_, rfl, rfl⟩) _ hf
    · replace hf := (if_neg h1).symm.trans hf
      refine go_icY (pc := 31) (pc' := 77) d16_31 (XT.ii_le_t h1) j_31_46 ?_
      exact k_insertRun_77_ok v1 v2 v3 s (.val (.int v4)) (Or.inr ⟨_, rfl, rfl⟩) _ hf
set_option maxRecDepth 65536 in
set_option maxHeartbeats 4000000 in
theorem k_insertRun_ok  : ∀ (v1 : Int32) (v2 : Int32) (v3 : Int32) (s : S)  (o : S), k_insertRun v1 v2 v3 s = some o → Go PP m16 0 [.val (.ref 1), .val (.int v1), .val (.int v2), .val (.int v3), .unset] [] (none, [(9, s)]) (none, (none, [(9, o)])) := by
  intro v1 v2 v3 s o hf
  unfold k_insertRun at hf
  refine go_aloadN (pc := 0) d16_0 rfl (go_getI (pc := 1) fs_145 hm_16 d16_1 (go_bipush (pc := 4) d16_4 cb_32 ?_))
  by_cases h1 : (gI s 7) < (32 : Int32)
  · replace hf := (if_pos h1).symm.trans hf
    refine go_icN (pc := 6) d16_6 (XT.ii_ge_f h1) ?_
    refine go_iloadN (pc := 9) d16_9 rfl ?_
    by_cases h2 : v1 < 0
    · replace hf := (if_pos h2).symm.trans hf
      refine go_ifY (pc := 10) (pc' := 21) d16_10 (XT.i0_lt_t h2) j_10_11 ?_
      cases hf
      exact go_ret (pc := 21) rfl d16_21
    · replace hf := (if_neg h2).symm.trans hf
      refine go_ifN (pc := 10) d16_10 (XT.i0_lt_f h2) ?_
      refine go_iloadN (pc := 13) d16_13 rfl (go_aloadN (pc := 14) d16_14 rfl (go_getI (pc := 15) fs_145 hm_16 d16_15 ?_))
      by_cases h3 : (gI s 7) < v1
      · replace hf := (if_pos h3).symm.trans hf
        refine go_icN (pc := 18) d16_18 (XT.ii_le_f h3) ?_
        cases hf
        exact go_ret (pc := 21) rfl d16_21
      · replace hf := (if_neg h3).symm.trans hf
        refine go_icY (pc := 18) (pc' := 22) d16_18 (XT.ii_le_t h3) j_18_4 ?_
        refine go_aloadN (pc := 22) d16_22 rfl (go_getI (pc := 23) fs_145 hm_16 d16_23 (go_istore (pc := 26) (L' := [.val (.ref 1), .val (.int v1), .val (.int v2), .val (.int v3), .val (.int (gI s 7))]) d16_26 rfl ?_))
        exact k_insertRun_28_ok BIG v1 v2 v3 (gI s 7) s _ hf
  · replace hf := (if_neg h1).symm.trans hf
    refine go_icY (pc := 6) (pc' := 21) d16_6 (XT.ii_ge_t h1) j_6_15 ?_
    cases hf
    exact go_ret (pc := 21) rfl d16_21
theorem c_k_insertRun (v1 : Int32) (v2 : Int32) (v3 : Int32) (s : S) (o : S) (hf : k_insertRun v1 v2 v3 s = some o) : Call PP m16 [.ref 1, .int v1, .int v2, .int v3] (none, [(9, s)]) (none, (none, [(9, o)])) := call_of_go pl_0 rfl (fun _ => rfl) (k_insertRun_ok v1 v2 v3 s   _ hf)
set_option maxRecDepth 65536 in
set_option maxHeartbeats 4000000 in
theorem k_releaseRange_102_ok  : ∀ (v1 : Int32) (v2 : Int32) (v3 : Int32) (v4 : Int32) (v5 : Int32) (s : S)  (o : S), k_releaseRange_102 v1 v2 v3 v4 v5 s = some o → Go PP m17 102 [.val (.ref 1), .val (.int v1), .val (.int v2), .val (.int v3), .val (.int v4), .val (.int v5)] [] (none, [(9, s)]) (none, (none, [(9, o)])) := by
  intro v1 v2 v3 v4 v5 s o hf
  unfold k_releaseRange_102 at hf
  refine go_iload (pc := 102) d17_102 rfl ?_
  by_cases h1 : v4 = 0
  · replace hf := (if_pos h1).symm.trans hf
    refine go_ifY (pc := 104) (pc' := 122) d17_104 (XT.i0_eq_t h1) j_104_18 ?_
    refine go_iload (pc := 122) d17_122 rfl ?_
    by_cases h2 : v5 = 0
    · replace hf := (if_pos h2).symm.trans hf
      refine go_ifY (pc := 124) (pc' := 147) d17_124 (XT.i0_eq_t h2) j_124_23 ?_
      refine go_aloadN (pc := 147) d17_147 rfl (go_iloadN (pc := 148) d17_148 rfl (go_iloadN (pc := 149) d17_149 rfl (go_iloadN (pc := 150) d17_150 rfl ?_)))
      obtain ⟨r151, e3, hf⟩ := Option.bind_eq_some_iff.mp hf
      refine go_priv (pc := 151) (i := 0) (as := [.int v3, .int v1, .int v2]) (rest := []) (w' := (none, [(9, r151)])) lk_0_197 pd_16 rfl oid_0 rfl rfl rfl rfl rfl rfl ⟨rfl, rfl, rfl, rfl, rfl⟩ d17_151 (c_k_insertRun v3 v1 v2 s _ e3) ?_
      cases hf
      exact go_ret (pc := 154) rfl d17_154
    · replace hf := (if_neg h2).symm.trans hf
      refine go_ifN (pc := 124) d17_124 (XT.i0_eq_f h2) ?_
      refine go_aloadN (pc := 127) d17_127 rfl (go_getA (pc := 128) fa_32 hm_17 d17_128 rfl (go_iloadN (pc := 131) d17_131 rfl (go_iloadN (pc := 132) d17_132 rfl ?_)))
      obtain ⟨a133, e4, hf⟩ := Option.bind_eq_some_iff.mp hf
      refine go_iastore (pc := 133) (q := 7) ar_7 rfl hn_17 e4 d17_133 ?_
      refine go_aloadN (pc := 134) d17_134 rfl (go_getA (pc := 135) fa_35 hm_17 d17_135 rfl (go_iloadN (pc := 138) d17_138 rfl (go_dup2 (pc := 139) d17_139 ?_)))
      obtain ⟨a140, e5, hf⟩ := Option.bind_eq_some_iff.mp hf
      refine go_iaload (pc := 140) (q := 8) ar_8 rfl e5 d17_140 ?_
      refine go_iloadN (pc := 141) d17_141 rfl (go_iadd (pc := 142) d17_142 ?_)
      obtain ⟨a143, e6, hf⟩ := Option.bind_eq_some_iff.mp hf
      refine go_iastore (pc := 143) (q := 8) ar_8 rfl hn_17 e6 d17_143 ?_
      refine go_goto (pc := 144) (pc' := 154) d17_144 j_144_10 ?_
      cases hf
      exact go_ret (pc := 154) rfl d17_154
  · replace hf := (if_neg h1).symm.trans hf
    refine go_ifN (pc := 104) d17_104 (XT.i0_eq_f h1) ?_
    refine go_aloadN (pc := 107) d17_107 rfl (go_getA (pc := 108) fa_35 hm_17 d17_108 rfl (go_iloadN (pc := 111) d17_111 rfl (go_iconst (pc := 112) d17_112 ci_1 (go_isub (pc := 113) d17_113 (go_dup2 (pc := 114) d17_114 ?_)))))
    obtain ⟨a115, e7, hf⟩ := Option.bind_eq_some_iff.mp hf
    refine go_iaload (pc := 115) (q := 8) ar_8 rfl e7 d17_115 ?_
    refine go_iloadN (pc := 116) d17_116 rfl (go_iadd (pc := 117) d17_117 ?_)
    obtain ⟨a118, e8, hf⟩ := Option.bind_eq_some_iff.mp hf
    refine go_iastore (pc := 118) (q := 8) ar_8 rfl hn_17 e8 d17_118 ?_
    refine go_goto (pc := 119) (pc' := 154) d17_119 j_119_35 ?_
    cases hf
    exact go_ret (pc := 154) rfl d17_154
set_option maxRecDepth 65536 in
set_option maxHeartbeats 4000000 in
theorem k_releaseRange_63_ok  : ∀ (v1 : Int32) (v2 : Int32) (v3 : Int32) (v4 : Int32) (p0 : Int32) (s : S)  (o : S), k_releaseRange_63 v1 v2 v3 v4 p0 s = some o → Go PP m17 63 [.val (.ref 1), .val (.int v1), .val (.int v2), .val (.int v3), .val (.int v4), .unset] [.int p0] (none, [(9, s)]) (none, (none, [(9, o)])) := by
  intro v1 v2 v3 v4 p0 s o hf
  unfold k_releaseRange_63 at hf
  refine go_istore (pc := 63) (L' := [.val (.ref 1), .val (.int v1), .val (.int v2), .val (.int v3), .val (.int v4), .val (.int p0)]) d17_63 rfl (go_iload (pc := 65) d17_65 rfl ?_)
  by_cases h1 : v4 = 0
  · replace hf := (if_pos h1).symm.trans hf
    refine go_ifY (pc := 67) (pc' := 102) d17_67 (XT.i0_eq_t h1) j_67_35 ?_
    exact k_releaseRange_102_ok v1 v2 v3 v4 p0 s _ hf
  · replace hf := (if_neg h1).symm.trans hf
    refine go_ifN (pc := 67) d17_67 (XT.i0_eq_f h1) ?_
    refine go_iload (pc := 70) d17_70 rfl ?_
    by_cases h2 : p0 = 0
    · replace hf := (if_pos h2).symm.trans hf
      refine go_ifY (pc := 72) (pc' := 102) d17_72 (XT.i0_eq_t h2) j_72_30 ?_
      exact k_releaseRange_102_ok v1 v2 v3 v4 p0 s _ hf
    · replace hf := (if_neg h2).symm.trans hf
      refine go_ifN (pc := 72) d17_72 (XT.i0_eq_f h2) ?_
      refine go_aloadN (pc := 75) d17_75 rfl (go_getA (pc := 76) fa_35 hm_17 d17_76 rfl (go_iloadN (pc := 79) d17_79 rfl (go_iconst (pc := 80) d17_80 ci_1 (go_isub (pc := 81) d17_81 (go_dup2 (pc := 82) d17_82 ?_)))))
      obtain ⟨a83, e3, hf⟩ := Option.bind_eq_some_iff.mp hf
      refine go_iaload (pc := 83) (q := 8) ar_8 rfl e3 d17_83 ?_
      refine go_iloadN (pc := 84) d17_84 rfl (go_aloadN (pc := 85) d17_85 rfl (go_getA (pc := 86) fa_35 hm_17 d17_86 rfl (go_iloadN (pc := 89) d17_89 rfl ?_)))
      obtain ⟨a90, e4, hf⟩ := Option.bind_eq_some_iff.mp hf
      refine go_iaload (pc := 90) (q := 8) ar_8 rfl e4 d17_90 ?_
      refine go_iadd (pc := 91) d17_91 (go_iadd (pc := 92) d17_92 ?_)
      obtain ⟨a93, e5, hf⟩ := Option.bind_eq_some_iff.mp hf
      refine go_iastore (pc := 93) (q := 8) ar_8 rfl hn_17 e5 d17_93 ?_
      refine go_aloadN (pc := 94) d17_94 rfl (go_iloadN (pc := 95) d17_95 rfl ?_)
      obtain ⟨r96, e6, hf⟩ := Option.bind_eq_some_iff.mp hf
      refine go_priv (pc := 96) (i := 0) (as := [.int v3]) (rest := []) (w' := (none, [(9, r96)])) lk_0_191 pd_15 rfl oid_0 rfl rfl rfl rfl rfl rfl ⟨rfl, rfl, rfl, rfl, rfl⟩ d17_96 (c_k_removeRun v3 (sA s 8 a93) _ e6) ?_
      refine go_goto (pc := 99) (pc' := 154) d17_99 j_99_55 ?_
      cases hf
      exact go_ret (pc := 154) rfl d17_154
set_option maxRecDepth 65536 in
set_option maxHeartbeats 4000000 in
theorem k_releaseRange_62_ok  : ∀ (v1 : Int32) (v2 : Int32) (v3 : Int32) (v4 : Int32) (s : S)  (o : S), k_releaseRange_62 v1 v2 v3 v4 s = some o → Go PP m17 62 [.val (.ref 1), .val (.int v1), .val (.int v2), .val (.int v3), .val (.int v4), .unset] [] (none, [(9, s)]) (none, (none, [(9, o)])) := by
  intro v1 v2 v3 v4 s o hf
  unfold k_releaseRange_62 at hf
  refine go_iconst (pc := 62) d17_62 ci_0 ?_
  exact k_releaseRange_63_ok v1 v2 v3 v4 (0 : Int32) s _ hf
set_option maxRecDepth 65536 in
set_option maxHeartbeats 4000000 in
theorem k_releaseRange_36_ok  : ∀ (v1 : Int32) (v2 : Int32) (v3 : Int32) (p0 : Int32) (s : S)  (o : S), k_releaseRange_36 v1 v2 v3 p0 s = some o → Go PP m17 36 [.val (.ref 1), .val (.int v1), .val (.int v2), .val (.int v3), .unset, .unset] [.int p0] (none, [(9, s)]) (none, (none, [(9, o)])) := by
  intro v1 v2 v3 p0 s o hf
  unfold k_releaseRange_36 at hf
  refine go_istore (pc := 36) (L' := [.val (.ref 1), .val (.int v1), .val (.int v2), .val (.int v3), .val (.int p0), .unset]) d17_36 rfl (go_iloadN (pc := 38) d17_38 rfl (go_aloadN (pc := 39) d17_39 rfl (go_getI (pc := 40) fs_145 hm_17 d17_40 ?_)))
  by_cases h1 : v3 < (gI s 7)
  · replace hf := (if_pos h1).symm.trans hf
    refine go_icN (pc := 43) d17_43 (XT.ii_ge_f h1) ?_
    refine go_iloadN (pc := 46) d17_46 rfl (go_iloadN (pc := 47) d17_47 rfl (go_iadd (pc := 48) d17_48 (go_aloadN (pc := 49) d17_49 rfl (go_getA (pc := 50) fa_32 hm_17 d17_50 rfl (go_iloadN (pc := 53) d17_53 rfl ?_)))))
    obtain ⟨a54, e2, hf⟩ := Option.bind_eq_some_iff.mp hf
    refine go_iaload (pc := 54) (q := 7) ar_7 rfl e2 d17_54 ?_
    by_cases h3 : (v1 + v2) = a54
    · refine go_icN (pc := 55) d17_55 (XT.ii_ne_f h3) ?_
      refine go_iconst (pc := 58) d17_58 ci_1 (go_goto (pc := 59) (pc' := 63) d17_59 j_59_4 ?_)
      exact k_releaseRange_63_ok v1 v2 v3 p0 (1 : Int32) s _ (by simpa only [if_pos h3] using hf)
    · refine go_icY (pc := 55) (pc' := 62) d17_55 (XT.ii_ne_t h3) j_55_7 ?_
      refine go_iconst (pc := 62) d17_62 ci_0 ?_
      exact k_releaseRange_63_ok v1 v2 v3 p0 (0 : Int32) s _ (by simpa only [if_neg h3] using hf)
  · replace hf := (if_neg h1).symm.trans hf
    refine go_icY (pc := 43) (pc' := 62) d17_43 (XT.ii_ge_t h1) j_43_19 ?_
    exact k_releaseRange_62_ok v1 v2 v3 p0 s _ hf
set_option maxRecDepth 65536 in
set_option maxHeartbeats 4000000 in
theorem k_releaseRange_35_ok  : ∀ (v1 : Int32) (v2 : Int32) (v3 : Int32) (s : S)  (o : S), k_releaseRange_35 v1 v2 v3 s = some o → Go PP m17 35 [.val (.ref 1), .val (.int v1), .val (.int v2), .val (.int v3), .unset, .unset] [] (none, [(9, s)]) (none, (none, [(9, o)])) := by
  intro v1 v2 v3 s o hf
  unfold k_releaseRange_35 at hf
  refine go_iconst (pc := 35) d17_35 ci_0 ?_
  exact k_releaseRange_36_ok v1 v2 v3 (0 : Int32) s _ hf
set_option maxRecDepth 65536 in
set_option maxHeartbeats 4000000 in
theorem k_releaseRange_ok  : ∀ (v1 : Int32) (v2 : Int32) (s : S)  (o : S), k_releaseRange v1 v2 s = some o → Go PP m17 0 [.val (.ref 1), .val (.int v1), .val (.int v2), .unset, .unset, .unset] [] (none, [(9, s)]) (none, (none, [(9, o)])) := by
  intro v1 v2 s o hf
  unfold k_releaseRange at hf
  refine go_aloadN (pc := 0) d17_0 rfl (go_iloadN (pc := 1) d17_1 rfl ?_)
  obtain ⟨r2, e1, hf⟩ := Option.bind_eq_some_iff.mp hf
  refine go_priv (pc := 2) (i := 0) (as := [.int v1]) (rest := []) (w' := (none, [(9, s)])) lk_0_194 pd_14 rfl oid_0 rfl rfl rfl rfl rfl rfl ⟨rfl, rfl, rfl, rfl, rfl⟩ d17_2 (c_k_runInsertPosition v1 s _ e1) ?_
  refine go_istoreN (pc := 5) (L' := [.val (.ref 1), .val (.int v1), .val (.int v2), .val (.int r2), .unset, .unset]) d17_5 rfl (go_iloadN (pc := 6) d17_6 rfl ?_)
  by_cases h2 : 0 < r2
  · replace hf := (if_pos h2).symm.trans hf
    refine go_ifN (pc := 7) d17_7 (XT.i0_le_f h2) ?_
    refine go_aloadN (pc := 10) d17_10 rfl (go_getA (pc := 11) fa_32 hm_17 d17_11 rfl (go_iloadN (pc := 14) d17_14 rfl (go_iconst (pc := 15) d17_15 ci_1 (go_isub (pc := 16) d17_16 ?_))))
    obtain ⟨a17, e3, hf⟩ := Option.bind_eq_some_iff.mp hf
    refine go_iaload (pc := 17) (q := 7) ar_7 rfl e3 d17_17 ?_
    refine go_aloadN (pc := 18) d17_18 rfl (go_getA (pc := 19) fa_35 hm_17 d17_19 rfl (go_iloadN (pc := 22) d17_22 rfl (go_iconst (pc := 23) d17_23 ci_1 (go_isub (pc := 24) d17_24 ?_))))
    obtain ⟨a25, e4, hf⟩ := Option.bind_eq_some_iff.mp hf
    refine go_iaload (pc := 25) (q := 8) ar_8 rfl e4 d17_25 ?_
    refine go_iadd (pc := 26) d17_26 (go_iloadN (pc := 27) d17_27 rfl ?_)
    by_cases h5 : (a17 + a25) = v1
    · refine go_icN (pc := 28) d17_28 (XT.ii_ne_f h5) ?_
      refine go_iconst (pc := 31) d17_31 ci_1 (go_goto (pc := 32) (pc' := 36) d17_32 j_32_4 ?_)
      exact k_releaseRange_36_ok v1 v2 r2 (1 : Int32) s _ (by simpa only [if_pos h5] using hf)
    · refine go_icY (pc := 28) (pc' := 35) d17_28 (XT.ii_ne_t h5) j_28_7 ?_
      refine go_iconst (pc := 35) d17_35 ci_0 ?_
      exact k_releaseRange_36_ok v1 v2 r2 (0 : Int32) s _ (by simpa only [if_neg h5] using hf)
  · replace hf := (if_neg h2).symm.trans hf
    refine go_ifY (pc := 7) (pc' := 35) d17_7 (XT.i0_le_t h2) j_7_28 ?_
    exact k_releaseRange_35_ok v1 v2 r2 s _ hf
theorem c_k_releaseRange (v1 : Int32) (v2 : Int32) (s : S) (o : S) (hf : k_releaseRange v1 v2 s = some o) : Call PP m17 [.ref 1, .int v1, .int v2] (none, [(9, s)]) (none, (none, [(9, o)])) := call_of_go pl_0 rfl (fun _ => rfl) (k_releaseRange_ok v1 v2 s   _ hf)
set_option maxRecDepth 65536 in
set_option maxHeartbeats 4000000 in
theorem k_destroyChunk_ok  : ∀ (v1 : Int32) (s : S)  (o : S), k_destroyChunk v1 s = some o → Go PP m18 0 [.val (.ref 1), .val (.int v1), .unset, .unset, .unset] [] (none, [(9, s)]) (none, (none, [(9, o)])) := by
  intro v1 s o hf
  unfold k_destroyChunk at hf
  refine go_aloadN (pc := 0) d18_0 rfl (go_iloadN (pc := 1) d18_1 rfl ?_)
  refine go_priv (pc := 2) (i := 0) (as := [.int v1]) (rest := []) (w' := (none, [(9, s)])) lk_0_139 pd_9 rfl oid_0 rfl rfl rfl rfl rfl rfl ⟨rfl, rfl, rfl, rfl, rfl⟩ d18_2 (c_k_validSlot v1 s) ?_
  by_cases h1 : (k_validSlot v1) = 0
  · replace hf := (if_pos h1).symm.trans hf
    refine go_ifN (pc := 5) d18_5 (XT.i0_ne_f h1) ?_
    cases hf
    exact go_ret (pc := 8) rfl d18_8
  · replace hf := (if_neg h1).symm.trans hf
    refine go_ifY (pc := 5) (pc' := 9) d18_5 (XT.i0_ne_t h1) j_5_4 ?_
    refine go_aloadN (pc := 9) d18_9 rfl (go_getA (pc := 10) fa_20 hm_18 d18_10 rfl (go_iloadN (pc := 13) d18_13 rfl ?_))
    obtain ⟨a14, e2, hf⟩ := Option.bind_eq_some_iff.mp hf
    refine go_iaload (pc := 14) (q := 3) ar_3 rfl e2 d18_14 ?_
    refine go_istoreN (pc := 15) (L' := [.val (.ref 1), .val (.int v1), .val (.int a14), .unset, .unset]) d18_15 rfl (go_aloadN (pc := 16) d18_16 rfl (go_getA (pc := 17) fa_23 hm_18 d18_17 rfl (go_iloadN (pc := 20) d18_20 rfl ?_)))
    obtain ⟨a21, e3, hf⟩ := Option.bind_eq_some_iff.mp hf
    refine go_iaload (pc := 21) (q := 4) ar_4 rfl e3 d18_21 ?_
    refine go_istoreN (pc := 22) (L' := [.val (.ref 1), .val (.int v1), .val (.int a14), .val (.int a21), .unset]) d18_22 rfl (go_aloadN (pc := 23) d18_23 rfl (go_iloadN (pc := 24) d18_24 rfl ?_))
    obtain ⟨r25, e4, hf⟩ := Option.bind_eq_some_iff.mp hf
    refine go_priv (pc := 25) (i := 0) (as := [.int a21]) (rest := []) (w' := (none, [(9, s)])) lk_0_80 pd_7 rfl oid_0 rfl rfl rfl rfl rfl rfl ⟨rfl, rfl, rfl, rfl, rfl⟩ d18_25 (c_k_spanFor a21 s _ e4) ?_
    refine go_istore (pc := 28) (L' := [.val (.ref 1), .val (.int v1), .val (.int a14), .val (.int a21), .val (.int r25)]) d18_28 rfl (go_aloadN (pc := 30) d18_30 rfl (go_iloadN (pc := 31) d18_31 rfl (go_iload (pc := 32) d18_32 rfl (go_sipush (pc := 34) d18_34 cs_254 ?_))))
    obtain ⟨r37, e5, hf⟩ := Option.bind_eq_some_iff.mp hf
    refine go_priv (pc := 37) (i := 0) (as := [.int a14, .int r25, .int (254 : Int32)]) (rest := []) (w' := (none, [(9, r37)])) lk_0_157 pd_12 rfl oid_0 rfl rfl rfl rfl rfl rfl ⟨rfl, rfl, rfl, rfl, rfl⟩ d18_37 (c_k_paintRange a14 r25 (254 : Int32) s _ e5) ?_
    refine go_aloadN (pc := 40) d18_40 rfl (go_iloadN (pc := 41) d18_41 rfl (go_iload (pc := 42) d18_42 rfl (go_iconst (pc := 44) d18_44 ci_m1 ?_)))
    obtain ⟨r45, e6, hf⟩ := Option.bind_eq_some_iff.mp hf
    refine go_priv (pc := 45) (i := 0) (as := [.int a14, .int r25, .int (-1 : Int32)]) (rest := []) (w' := (none, [(9, r45)])) lk_0_161 pd_13 rfl oid_0 rfl rfl rfl rfl rfl rfl ⟨rfl, rfl, rfl, rfl, rfl⟩ d18_45 (c_k_setOwner a14 r25 (-1 : Int32) r37 _ e6) ?_
    refine go_aloadN (pc := 48) d18_48 rfl (go_iloadN (pc := 49) d18_49 rfl (go_iload (pc := 50) d18_50 rfl ?_))
    obtain ⟨r52, e7, hf⟩ := Option.bind_eq_some_iff.mp hf
    refine go_priv (pc := 52) (i := 0) (as := [.int a14, .int r25]) (rest := []) (w' := (none, [(9, r52)])) lk_0_176 pd_17 rfl oid_0 rfl rfl rfl rfl rfl rfl ⟨rfl, rfl, rfl, rfl, rfl⟩ d18_52 (c_k_releaseRange a14 r25 r45 _ e7) ?_
    refine go_aloadN (pc := 55) d18_55 rfl (go_getA (pc := 56) fa_26 hm_18 d18_56 rfl (go_iloadN (pc := 59) d18_59 rfl (go_iconst (pc := 60) d18_60 ci_0 ?_)))
    obtain ⟨a61, e8, hf⟩ := Option.bind_eq_some_iff.mp hf
    refine go_bastore (pc := 61) (q := 5) ar_5 (by decide) rfl hn_18 rfl e8 d18_61 ?_
    refine go_aloadN (pc := 62) d18_62 rfl (go_getA (pc := 63) fa_20 hm_18 d18_63 rfl (go_iloadN (pc := 66) d18_66 rfl (go_iconst (pc := 67) d18_67 ci_0 ?_)))
    obtain ⟨a68, e9, hf⟩ := Option.bind_eq_some_iff.mp hf
    refine go_iastore (pc := 68) (q := 3) ar_3 rfl hn_18 e9 d18_68 ?_
    refine go_aloadN (pc := 69) d18_69 rfl (go_getA (pc := 70) fa_23 hm_18 d18_70 rfl (go_iloadN (pc := 73) d18_73 rfl (go_iconst (pc := 74) d18_74 ci_0 ?_)))
    obtain ⟨a75, e10, hf⟩ := Option.bind_eq_some_iff.mp hf
    refine go_iastore (pc := 75) (q := 4) ar_4 rfl hn_18 e10 d18_75 ?_
    cases hf
    exact go_ret (pc := 76) rfl d18_76
theorem c_k_destroyChunk (v1 : Int32) (s : S) (o : S) (hf : k_destroyChunk v1 s = some o) : Call PP m18 [.ref 1, .int v1] (none, [(9, s)]) (none, (none, [(9, o)])) := call_of_go pl_0 rfl (fun _ => rfl) (k_destroyChunk_ok v1 s   _ hf)
set_option maxRecDepth 65536 in
set_option maxHeartbeats 4000000 in
theorem k_evictOldest_ok  : ∀  (s : S)  (o : S), k_evictOldest s = some o → Go PP m19 0 [.val (.ref 1), .unset] [] (none, [(9, s)]) (none, (none, [(9, o)])) := by
  intro s o hf
  unfold k_evictOldest at hf
  refine go_aloadN (pc := 0) d19_0 rfl (go_getI (pc := 1) fs_130 hm_19 d19_1 ?_)
  by_cases h1 : 0 < (gI s 5)
  · replace hf := (if_pos h1).symm.trans hf
    refine go_ifY (pc := 4) (pc' := 8) d19_4 (XT.i0_gt_t h1) j_4_4 ?_
    refine go_aloadN (pc := 8) d19_8 rfl (go_getA (pc := 9) fa_29 hm_19 d19_9 rfl (go_aloadN (pc := 12) d19_12 rfl (go_getI (pc := 13) fs_136 hm_19 d19_13 ?_)))
    obtain ⟨a16, e2, hf⟩ := Option.bind_eq_some_iff.mp hf
    refine go_iaload (pc := 16) (q := 6) ar_6 rfl e2 d19_16 ?_
    refine go_istoreN (pc := 17) (L' := [.val (.ref 1), .val (.int a16)]) d19_17 rfl (go_aloadN (pc := 18) d19_18 rfl (go_getA (pc := 19) fa_29 hm_19 d19_19 rfl (go_aloadN (pc := 22) d19_22 rfl (go_getI (pc := 23) fs_136 hm_19 d19_23 (go_iconst (pc := 26) d19_26 ci_m1 ?_)))))
    obtain ⟨a27, e3, hf⟩ := Option.bind_eq_some_iff.mp hf
    refine go_iastore (pc := 27) (q := 6) ar_6 rfl hn_19 e3 d19_27 ?_
    refine go_aloadN (pc := 28) d19_28 rfl (go_aloadN (pc := 29) d19_29 rfl (go_getI (pc := 30) fs_136 hm_19 d19_30 (go_iconst (pc := 33) d19_33 ci_1 (go_iadd (pc := 34) d19_34 (go_bipush (pc := 35) d19_35 cb_31 (go_iand (pc := 37) d19_37 (go_putI (pc := 38) fs_136 hm_19 (wr_4 _) hn_19 d19_38 ?_)))))))
    refine go_aloadN (pc := 41) d19_41 rfl (go_dupR (pc := 42) d19_42 (go_getI (pc := 43) fs_130 hm_19 d19_43 (go_iconst (pc := 46) d19_46 ci_1 (go_isub (pc := 47) d19_47 (go_putI (pc := 48) fs_130 hm_19 (wr_5 _) hn_19 d19_48 (go_aloadN (pc := 51) d19_51 rfl (go_dupR (pc := 52) d19_52 ?_)))))))
    refine go_getI (pc := 53) fs_133 hm_19 d19_53 (go_aloadN (pc := 56) d19_56 rfl (go_iloadN (pc := 57) d19_57 rfl ?_))
    obtain ⟨r58, e4, hf⟩ := Option.bind_eq_some_iff.mp hf
    refine go_priv (pc := 58) (i := 0) (as := [.int a16]) (rest := [.int (gI s 6), .ref 1]) (w' := (none, [(9, sI (sI (sA s 6 a27) 4 (((gI s 4) + (1 : Int32)) &&& (31 : Int32))) 5 ((gI s 5) - (1 : Int32)))])) lk_0_182 pd_10 rfl oid_0 rfl rfl rfl rfl rfl rfl ⟨rfl, rfl, rfl, rfl, rfl⟩ d19_58 (c_k_weightOf a16 (sI (sI (sA s 6 a27) 4 (((gI s 4) + (1 : Int32)) &&& (31 : Int32))) 5 ((gI s 5) - (1 : Int32))) _ e4) ?_
    refine go_isub (pc := 61) d19_61 (go_putI (pc := 62) fs_133 hm_19 (wr_6 _) hn_19 d19_62 (go_aloadN (pc := 65) d19_65 rfl (go_iloadN (pc := 66) d19_66 rfl ?_)))
    obtain ⟨r67, e5, hf⟩ := Option.bind_eq_some_iff.mp hf
    refine go_priv (pc := 67) (i := 0) (as := [.int a16]) (rest := []) (w' := (none, [(9, sI (sI (sI (sA s 6 a27) 4 (((gI s 4) + (1 : Int32)) &&& (31 : Int32))) 5 ((gI s 5) - (1 : Int32))) 6 ((gI s 6) - r58))])) lk_0_101 pd_11 rfl oid_0 rfl rfl rfl rfl rfl rfl ⟨rfl, rfl, rfl, rfl, rfl⟩ d19_67 (c_k_isQuarantined a16 (sI (sI (sI (sA s 6 a27) 4 (((gI s 4) + (1 : Int32)) &&& (31 : Int32))) 5 ((gI s 5) - (1 : Int32))) 6 ((gI s 6) - r58)) _ e5) ?_
    by_cases h6 : r67 = 0
    · replace hf := (if_pos h6).symm.trans hf
      refine go_ifY (pc := 70) (pc' := 78) d19_70 (XT.i0_eq_t h6) j_70_8 ?_
      cases hf
      exact go_ret (pc := 78) rfl d19_78
    · replace hf := (if_neg h6).symm.trans hf
      refine go_ifN (pc := 70) d19_70 (XT.i0_eq_f h6) ?_
      refine go_aloadN (pc := 73) d19_73 rfl (go_iloadN (pc := 74) d19_74 rfl ?_)
      obtain ⟨r75, e7, hf⟩ := Option.bind_eq_some_iff.mp hf
      refine go_priv (pc := 75) (i := 0) (as := [.int a16]) (rest := []) (w' := (none, [(9, r75)])) lk_0_185 pd_18 rfl oid_0 rfl rfl rfl rfl rfl rfl ⟨rfl, rfl, rfl, rfl, rfl⟩ d19_75 (c_k_destroyChunk a16 (sI (sI (sI (sA s 6 a27) 4 (((gI s 4) + (1 : Int32)) &&& (31 : Int32))) 5 ((gI s 5) - (1 : Int32))) 6 ((gI s 6) - r58)) _ e7) ?_
      cases hf
      exact go_ret (pc := 78) rfl d19_78
  · replace hf := (if_neg h1).symm.trans hf
    refine go_ifN (pc := 4) d19_4 (XT.i0_gt_f h1) ?_
    cases hf
    exact go_ret (pc := 7) rfl d19_7
theorem c_k_evictOldest (s : S) (o : S) (hf : k_evictOldest s = some o) : Call PP m19 [.ref 1] (none, [(9, s)]) (none, (none, [(9, o)])) := call_of_go pl_0 rfl (fun _ => rfl) (k_evictOldest_ok s   _ hf)
set_option maxRecDepth 65536 in
set_option maxHeartbeats 4000000 in
theorem k_findRoom_8_ok  : ∀ (n : Nat) (v1 : Int32) (v2 : Int32) (v3 : Int32) (s : S)  (o : Int32 × S), k_findRoom_8 n v1 v2 v3 s = some o → Go PP m20 8 [.val (.ref 1), .val (.int v1), .val (.int v2), .val (.int v3)] [] (none, [(9, s)]) (some (.int o.1), (none, [(9, o.2)])) := by
  intro n
  induction n with
  | zero => intro v1 v2 v3 s o hf; exact nomatch hf
  | succ n ih =>
    intro v1 v2 v3 s o hf
    unfold k_findRoom_8 at hf
    refine go_iloadN (pc := 8) d20_8 rfl (go_bipush (pc := 9) d20_9 cb_64 ?_)
    by_cases h1 : v3 < (64 : Int32)
    · replace hf := (if_pos h1).symm.trans hf
      refine go_icN (pc := 11) d20_11 (XT.ii_ge_f h1) ?_
      refine go_iloadN (pc := 14) d20_14 rfl ?_
      by_cases h2 : v2 < 0
      · replace hf := (if_pos h2).symm.trans hf
        refine go_ifN (pc := 15) d20_15 (XT.i0_ge_f h2) ?_
        refine go_aloadN (pc := 18) d20_18 rfl (go_getI (pc := 19) fs_130 hm_20 d20_19 ?_)
        by_cases h3 : 0 < (gI s 5)
        · replace hf := (if_pos h3).symm.trans hf
          refine go_ifN (pc := 22) d20_22 (XT.i0_le_f h3) ?_
          refine go_aloadN (pc := 25) d20_25 rfl ?_
          obtain ⟨r26, e4, hf⟩ := Option.bind_eq_some_iff.mp hf
          refine go_priv (pc := 26) (i := 0) (as := []) (rest := []) (w' := (none, [(9, r26)])) lk_0_179 pd_19 rfl oid_0 rfl rfl rfl rfl rfl rfl ⟨rfl, rfl, rfl, rfl, rfl⟩ d20_26 (c_k_evictOldest s _ e4) ?_
          refine go_aloadN (pc := 29) d20_29 rfl (go_iloadN (pc := 30) d20_30 rfl ?_)
          obtain ⟨r31, e5, hf⟩ := Option.bind_eq_some_iff.mp hf
          refine go_priv (pc := 31) (i := 0) (as := [.int v1]) (rest := []) (w' := (none, [(9, r26)])) lk_0_188 pd_8 rfl oid_0 rfl rfl rfl rfl rfl rfl ⟨rfl, rfl, rfl, rfl, rfl⟩ d20_31 (c_k_findFitRun v1 r26 _ e5) ?_
          refine go_istoreN (pc := 34) (L' := [.val (.ref 1), .val (.int v1), .val (.int r31), .val (.int v3)]) d20_34 rfl (go_iinc (pc := 35) (L' := [.val (.ref 1), .val (.int v1), .val (.int r31), .val (.int (v3 + (1 : Int32)))]) d20_35 rfl ci_1 rfl (go_goto (pc := 38) (pc' := 8) d20_38 j_38_m30 ?_))
          exact ih v1 r31 (v3 + (1 : Int32)) r26 _ hf
        · replace hf := (if_neg h3).symm.trans hf
          refine go_ifY (pc := 22) (pc' := 41) d20_22 (XT.i0_le_t h3) j_22_19 ?_
          refine go_iloadN (pc := 41) d20_41 rfl ?_
          cases hf
          exact go_iret (pc := 42) rfl d20_42
      · replace hf := (if_neg h2).symm.trans hf
        refine go_ifY (pc := 15) (pc' := 41) d20_15 (XT.i0_ge_t h2) j_15_26 ?_
        refine go_iloadN (pc := 41) d20_41 rfl ?_
        cases hf
        exact go_iret (pc := 42) rfl d20_42
    · replace hf := (if_neg h1).symm.trans hf
      refine go_icY (pc := 11) (pc' := 41) d20_11 (XT.ii_ge_t h1) j_11_30 ?_
      refine go_iloadN (pc := 41) d20_41 rfl ?_
      cases hf
      exact go_iret (pc := 42) rfl d20_42
set_option maxRecDepth 65536 in
set_option maxHeartbeats 4000000 in
theorem k_findRoom_ok  : ∀ (v1 : Int32) (s : S)  (o : Int32 × S), k_findRoom v1 s = some o → Go PP m20 0 [.val (.ref 1), .val (.int v1), .unset, .unset] [] (none, [(9, s)]) (some (.int o.1), (none, [(9, o.2)])) := by
  intro v1 s o hf
  unfold k_findRoom at hf
  refine go_aloadN (pc := 0) d20_0 rfl (go_iloadN (pc := 1) d20_1 rfl ?_)
  obtain ⟨r2, e1, hf⟩ := Option.bind_eq_some_iff.mp hf
  refine go_priv (pc := 2) (i := 0) (as := [.int v1]) (rest := []) (w' := (none, [(9, s)])) lk_0_188 pd_8 rfl oid_0 rfl rfl rfl rfl rfl rfl ⟨rfl, rfl, rfl, rfl, rfl⟩ d20_2 (c_k_findFitRun v1 s _ e1) ?_
  refine go_istoreN (pc := 5) (L' := [.val (.ref 1), .val (.int v1), .val (.int r2), .unset]) d20_5 rfl (go_iconst (pc := 6) d20_6 ci_0 (go_istoreN (pc := 7) (L' := [.val (.ref 1), .val (.int v1), .val (.int r2), .val (.int (0 : Int32))]) d20_7 rfl ?_))
  exact k_findRoom_8_ok BIG v1 r2 (0 : Int32) s _ hf
theorem c_k_findRoom (v1 : Int32) (s : S) (o : Int32 × S) (hf : k_findRoom v1 s = some o) : Call PP m20 [.ref 1, .int v1] (none, [(9, s)]) (some (.int o.1), (none, [(9, o.2)])) := call_of_go pl_0 rfl (fun h => nomatch h) (k_findRoom_ok v1 s   _ hf)
set_option maxRecDepth 65536 in
set_option maxHeartbeats 4000000 in
theorem k_findUnusedSlot_2_ok  : ∀ (n : Nat) (v1 : Int32) (s : S)  (o : Int32), k_findUnusedSlot_2 n v1 s = some o → Go PP m21 2 [.val (.ref 1), .val (.int v1)] [] (none, [(9, s)]) (some (.int o), (none, [(9, s)])) := by
  intro n
  induction n with
  | zero => intro v1 s o hf; exact nomatch hf
  | succ n ih =>
    intro v1 s o hf
    unfold k_findUnusedSlot_2 at hf
    refine go_iloadN (pc := 2) d21_2 rfl (go_bipush (pc := 3) d21_3 cb_32 ?_)
    by_cases h1 : v1 < (32 : Int32)
    · replace hf := (if_pos h1).symm.trans hf
      refine go_icN (pc := 5) d21_5 (XT.ii_ge_f h1) ?_
      refine go_aloadN (pc := 8) d21_8 rfl (go_getA (pc := 9) fa_26 hm_21 d21_9 rfl (go_iloadN (pc := 12) d21_12 rfl ?_))
      obtain ⟨a13, e2, hf⟩ := Option.bind_eq_some_iff.mp hf
      refine go_baload (pc := 13) (q := 5) ar_5 (by decide) rfl e2 d21_13 ?_
      by_cases h3 : a13 = 0
      · replace hf := (if_pos h3).symm.trans hf
        refine go_ifN (pc := 14) d21_14 (XT.i0_ne_f h3) ?_
        refine go_iloadN (pc := 17) d21_17 rfl ?_
        cases hf
        exact go_iret (pc := 18) rfl d21_18
      · replace hf := (if_neg h3).symm.trans hf
        refine go_ifY (pc := 14) (pc' := 19) d21_14 (XT.i0_ne_t h3) j_14_5 ?_
        refine go_iinc (pc := 19) (L' := [.val (.ref 1), .val (.int (v1 + (1 : Int32)))]) d21_19 rfl ci_1 rfl (go_goto (pc := 22) (pc' := 2) d21_22 j_22_m20 ?_)
        exact ih (v1 + (1 : Int32)) s _ hf
    · replace hf := (if_neg h1).symm.trans hf
      refine go_icY (pc := 5) (pc' := 25) d21_5 (XT.ii_ge_t h1) j_5_20 ?_
      refine go_iconst (pc := 25) d21_25 ci_m1 ?_
      cases hf
      exact go_iret (pc := 26) rfl d21_26
set_option maxRecDepth 65536 in
set_option maxHeartbeats 4000000 in
theorem k_findUnusedSlot_ok  : ∀  (s : S)  (o : Int32), k_findUnusedSlot s = some o → Go PP m21 0 [.val (.ref 1), .unset] [] (none, [(9, s)]) (some (.int o), (none, [(9, s)])) := by
  intro s o hf
  unfold k_findUnusedSlot at hf
  refine go_iconst (pc := 0) d21_0 ci_0 (go_istoreN (pc := 1) (L' := [.val (.ref 1), .val (.int (0 : Int32))]) d21_1 rfl ?_)
  exact k_findUnusedSlot_2_ok BIG (0 : Int32) s _ hf
theorem c_k_findUnusedSlot (s : S) (o : Int32) (hf : k_findUnusedSlot s = some o) : Call PP m21 [.ref 1] (none, [(9, s)]) (some (.int o), (none, [(9, s)])) := call_of_go pl_0 rfl (fun h => nomatch h) (k_findUnusedSlot_ok s   _ hf)
set_option maxRecDepth 65536 in
set_option maxHeartbeats 4000000 in
theorem k_carveFront_ok  : ∀ (v1 : Int32) (v2 : Int32) (s : S)  (o : S), k_carveFront v1 v2 s = some o → Go PP m22 0 [.val (.ref 1), .val (.int v1), .val (.int v2)] [] (none, [(9, s)]) (none, (none, [(9, o)])) := by
  intro v1 v2 s o hf
  unfold k_carveFront at hf
  refine go_iloadN (pc := 0) d22_0 rfl ?_
  by_cases h1 : v1 < 0
  · replace hf := (if_pos h1).symm.trans hf
    refine go_ifY (pc := 1) (pc' := 12) d22_1 (XT.i0_lt_t h1) j_1_11 ?_
    cases hf
    exact go_ret (pc := 12) rfl d22_12
  · replace hf := (if_neg h1).symm.trans hf
    refine go_ifN (pc := 1) d22_1 (XT.i0_lt_f h1) ?_
    refine go_iloadN (pc := 4) d22_4 rfl (go_aloadN (pc := 5) d22_5 rfl (go_getI (pc := 6) fs_145 hm_22 d22_6 ?_))
    by_cases h2 : v1 < (gI s 7)
    · replace hf := (if_pos h2).symm.trans hf
      refine go_icY (pc := 9) (pc' := 13) d22_9 (XT.ii_lt_t h2) j_9_4 ?_
      refine go_aloadN (pc := 13) d22_13 rfl (go_getA (pc := 14) fa_32 hm_22 d22_14 rfl (go_iloadN (pc := 17) d22_17 rfl (go_dup2 (pc := 18) d22_18 ?_)))
      obtain ⟨a19, e3, hf⟩ := Option.bind_eq_some_iff.mp hf
      refine go_iaload (pc := 19) (q := 7) ar_7 rfl e3 d22_19 ?_
      refine go_iloadN (pc := 20) d22_20 rfl (go_iadd (pc := 21) d22_21 ?_)
      obtain ⟨a22, e4, hf⟩ := Option.bind_eq_some_iff.mp hf
      refine go_iastore (pc := 22) (q := 7) ar_7 rfl hn_22 e4 d22_22 ?_
      refine go_aloadN (pc := 23) d22_23 rfl (go_getA (pc := 24) fa_35 hm_22 d22_24 rfl (go_iloadN (pc := 27) d22_27 rfl (go_dup2 (pc := 28) d22_28 ?_)))
      obtain ⟨a29, e5, hf⟩ := Option.bind_eq_some_iff.mp hf
      refine go_iaload (pc := 29) (q := 8) ar_8 rfl e5 d22_29 ?_
      refine go_iloadN (pc := 30) d22_30 rfl (go_isub (pc := 31) d22_31 ?_)
      obtain ⟨a32, e6, hf⟩ := Option.bind_eq_some_iff.mp hf
      refine go_iastore (pc := 32) (q := 8) ar_8 rfl hn_22 e6 d22_32 ?_
      refine go_aloadN (pc := 33) d22_33 rfl (go_getA (pc := 34) fa_35 hm_22 d22_34 rfl (go_iloadN (pc := 37) d22_37 rfl ?_))
      obtain ⟨a38, e7, hf⟩ := Option.bind_eq_some_iff.mp hf
      refine go_iaload (pc := 38) (q := 8) ar_8 rfl e7 d22_38 ?_
      by_cases h8 : 0 < a38
      · replace hf := (if_pos h8).symm.trans hf
        refine go_ifY (pc := 39) (pc' := 47) d22_39 (XT.i0_gt_t h8) j_39_8 ?_
        cases hf
        exact go_ret (pc := 47) rfl d22_47
      · replace hf := (if_neg h8).symm.trans hf
        refine go_ifN (pc := 39) d22_39 (XT.i0_gt_f h8) ?_
        refine go_aloadN (pc := 42) d22_42 rfl (go_iloadN (pc := 43) d22_43 rfl ?_)
        obtain ⟨r44, e9, hf⟩ := Option.bind_eq_some_iff.mp hf
        refine go_priv (pc := 44) (i := 0) (as := [.int v1]) (rest := []) (w' := (none, [(9, r44)])) lk_0_191 pd_15 rfl oid_0 rfl rfl rfl rfl rfl rfl ⟨rfl, rfl, rfl, rfl, rfl⟩ d22_44 (c_k_removeRun v1 (sA (sA s 7 a22) 8 a32) _ e9) ?_
        cases hf
        exact go_ret (pc := 47) rfl d22_47
    · replace hf := (if_neg h2).symm.trans hf
      refine go_icN (pc := 9) d22_9 (XT.ii_lt_f h2) ?_
      cases hf
      exact go_ret (pc := 12) rfl d22_12
theorem c_k_carveFront (v1 : Int32) (v2 : Int32) (s : S) (o : S) (hf : k_carveFront v1 v2 s = some o) : Call PP m22 [.ref 1, .int v1, .int v2] (none, [(9, s)]) (none, (none, [(9, o)])) := call_of_go pl_0 rfl (fun _ => rfl) (k_carveFront_ok v1 v2 s   _ hf)
set_option maxRecDepth 65536 in
set_option maxHeartbeats 4000000 in
theorem k_userGranule_ok  : ∀ (v1 : Int32) (s : S)  (o : Int32), k_userGranule v1 s = some o → Go PP m23 0 [.val (.ref 1), .val (.int v1)] [] (none, [(9, s)]) (some (.int o), (none, [(9, s)])) := by
  intro v1 s o hf
  unfold k_userGranule at hf
  refine go_aloadN (pc := 0) d23_0 rfl (go_iloadN (pc := 1) d23_1 rfl ?_)
  refine go_priv (pc := 2) (i := 0) (as := [.int v1]) (rest := []) (w' := (none, [(9, s)])) lk_0_139 pd_9 rfl oid_0 rfl rfl rfl rfl rfl rfl ⟨rfl, rfl, rfl, rfl, rfl⟩ d23_2 (c_k_validSlot v1 s) ?_
  by_cases h1 : (k_validSlot v1) = 0
  · replace hf := (if_pos h1).symm.trans hf
    refine go_ifN (pc := 5) d23_5 (XT.i0_ne_f h1) ?_
    refine go_iconst (pc := 8) d23_8 ci_m1 ?_
    cases hf
    exact go_iret (pc := 9) rfl d23_9
  · replace hf := (if_neg h1).symm.trans hf
    refine go_ifY (pc := 5) (pc' := 10) d23_5 (XT.i0_ne_t h1) j_5_5 ?_
    refine go_aloadN (pc := 10) d23_10 rfl (go_getA (pc := 11) fa_20 hm_23 d23_11 rfl (go_iloadN (pc := 14) d23_14 rfl ?_))
    obtain ⟨a15, e2, hf⟩ := Option.bind_eq_some_iff.mp hf
    refine go_iaload (pc := 15) (q := 3) ar_3 rfl e2 d23_15 ?_
    refine go_aloadN (pc := 16) d23_16 rfl (go_getI (pc := 17) fs_46 hm_23 d23_17 (go_iadd (pc := 20) d23_20 ?_))
    cases hf
    exact go_iret (pc := 21) rfl d23_21
theorem c_k_userGranule (v1 : Int32) (s : S) (o : Int32) (hf : k_userGranule v1 s = some o) : Call PP m23 [.ref 1, .int v1] (none, [(9, s)]) (some (.int o), (none, [(9, s)])) := call_of_go pl_0 rfl (fun h => nomatch h) (k_userGranule_ok v1 s   _ hf)
set_option maxRecDepth 65536 in
set_option maxHeartbeats 4000000 in
theorem k_rightGranule_ok  : ∀ (v1 : Int32) (s : S)  (o : Int32), k_rightGranule v1 s = some o → Go PP m24 0 [.val (.ref 1), .val (.int v1), .unset] [] (none, [(9, s)]) (some (.int o), (none, [(9, s)])) := by
  intro v1 s o hf
  unfold k_rightGranule at hf
  refine go_aloadN (pc := 0) d24_0 rfl (go_iloadN (pc := 1) d24_1 rfl ?_)
  refine go_priv (pc := 2) (i := 0) (as := [.int v1]) (rest := []) (w' := (none, [(9, s)])) lk_0_139 pd_9 rfl oid_0 rfl rfl rfl rfl rfl rfl ⟨rfl, rfl, rfl, rfl, rfl⟩ d24_2 (c_k_validSlot v1 s) ?_
  by_cases h1 : (k_validSlot v1) = 0
  · replace hf := (if_pos h1).symm.trans hf
    refine go_ifN (pc := 5) d24_5 (XT.i0_ne_f h1) ?_
    refine go_iconst (pc := 8) d24_8 ci_m1 ?_
    cases hf
    exact go_iret (pc := 9) rfl d24_9
  · replace hf := (if_neg h1).symm.trans hf
    refine go_ifY (pc := 5) (pc' := 10) d24_5 (XT.i0_ne_t h1) j_5_5 ?_
    refine go_aloadN (pc := 10) d24_10 rfl (go_getA (pc := 11) fa_23 hm_24 d24_11 rfl (go_iloadN (pc := 14) d24_14 rfl ?_))
    obtain ⟨a15, e2, hf⟩ := Option.bind_eq_some_iff.mp hf
    refine go_iaload (pc := 15) (q := 4) ar_4 rfl e2 d24_15 ?_
    refine go_istoreN (pc := 16) (L' := [.val (.ref 1), .val (.int v1), .val (.int a15)]) d24_16 rfl (go_aloadN (pc := 17) d24_17 rfl (go_iloadN (pc := 18) d24_18 rfl ?_))
    obtain ⟨r19, e3, hf⟩ := Option.bind_eq_some_iff.mp hf
    refine go_priv (pc := 19) (i := 0) (as := [.int v1]) (rest := []) (w' := (none, [(9, s)])) lk_0_151 pd_23 rfl oid_0 rfl rfl rfl rfl rfl rfl ⟨rfl, rfl, rfl, rfl, rfl⟩ d24_19 (c_k_userGranule v1 s _ e3) ?_
    refine go_aloadN (pc := 22) d24_22 rfl (go_iloadN (pc := 23) d24_23 rfl ?_)
    obtain ⟨r24, e4, hf⟩ := Option.bind_eq_some_iff.mp hf
    refine go_priv (pc := 24) (i := 0) (as := [.int a15]) (rest := [.int r19]) (w' := (none, [(9, s)])) lk_0_148 pd_6 rfl oid_0 rfl rfl rfl rfl rfl rfl ⟨rfl, rfl, rfl, rfl, rfl⟩ d24_24 (c_k_userGranulesFor a15 s _ e4) ?_
    refine go_iadd (pc := 27) d24_27 ?_
    cases hf
    exact go_iret (pc := 28) rfl d24_28
theorem c_k_rightGranule (v1 : Int32) (s : S) (o : Int32) (hf : k_rightGranule v1 s = some o) : Call PP m24 [.ref 1, .int v1] (none, [(9, s)]) (some (.int o), (none, [(9, s)])) := call_of_go pl_0 rfl (fun h => nomatch h) (k_rightGranule_ok v1 s   _ hf)
set_option maxRecDepth 65536 in
set_option maxHeartbeats 4000000 in
theorem k_paintLiveChunk_ok  : ∀ (v1 : Int32) (s : S)  (o : S), k_paintLiveChunk v1 s = some o → Go PP m25 0 [.val (.ref 1), .val (.int v1), .unset, .unset, .unset, .unset, .unset, .unset, .unset] [] (none, [(9, s)]) (none, (none, [(9, o)])) := by
  intro v1 s o hf
  unfold k_paintLiveChunk at hf
  refine go_aloadN (pc := 0) d25_0 rfl (go_getA (pc := 1) fa_20 hm_25 d25_1 rfl (go_iloadN (pc := 4) d25_4 rfl ?_))
  obtain ⟨a5, e1, hf⟩ := Option.bind_eq_some_iff.mp hf
  refine go_iaload (pc := 5) (q := 3) ar_3 rfl e1 d25_5 ?_
  refine go_istoreN (pc := 6) (L' := [.val (.ref 1), .val (.int v1), .val (.int a5), .unset, .unset, .unset, .unset, .unset, .unset]) d25_6 rfl (go_aloadN (pc := 7) d25_7 rfl (go_iloadN (pc := 8) d25_8 rfl ?_))
  obtain ⟨r9, e2, hf⟩ := Option.bind_eq_some_iff.mp hf
  refine go_priv (pc := 9) (i := 0) (as := [.int v1]) (rest := []) (w' := (none, [(9, s)])) lk_0_151 pd_23 rfl oid_0 rfl rfl rfl rfl rfl rfl ⟨rfl, rfl, rfl, rfl, rfl⟩ d25_9 (c_k_userGranule v1 s _ e2) ?_
  refine go_istoreN (pc := 12) (L' := [.val (.ref 1), .val (.int v1), .val (.int a5), .val (.int r9), .unset, .unset, .unset, .unset, .unset]) d25_12 rfl (go_aloadN (pc := 13) d25_13 rfl (go_iloadN (pc := 14) d25_14 rfl ?_))
  obtain ⟨r15, e3, hf⟩ := Option.bind_eq_some_iff.mp hf
  refine go_priv (pc := 15) (i := 0) (as := [.int v1]) (rest := []) (w' := (none, [(9, s)])) lk_0_154 pd_24 rfl oid_0 rfl rfl rfl rfl rfl rfl ⟨rfl, rfl, rfl, rfl, rfl⟩ d25_15 (c_k_rightGranule v1 s _ e3) ?_
  refine go_istore (pc := 18) (L' := [.val (.ref 1), .val (.int v1), .val (.int a5), .val (.int r9), .val (.int r15), .unset, .unset, .unset, .unset]) d25_18 rfl (go_aloadN (pc := 20) d25_20 rfl (go_getA (pc := 21) fa_23 hm_25 d25_21 rfl (go_iloadN (pc := 24) d25_24 rfl ?_)))
  obtain ⟨a25, e4, hf⟩ := Option.bind_eq_some_iff.mp hf
  refine go_iaload (pc := 25) (q := 4) ar_4 rfl e4 d25_25 ?_
  refine go_istore (pc := 26) (L' := [.val (.ref 1), .val (.int v1), .val (.int a5), .val (.int r9), .val (.int r15), .val (.int a25), .unset, .unset, .unset]) d25_26 rfl (go_aloadN (pc := 28) d25_28 rfl (go_iload (pc := 29) d25_29 rfl ?_))
  obtain ⟨r31, e5, hf⟩ := Option.bind_eq_some_iff.mp hf
  refine go_priv (pc := 31) (i := 0) (as := [.int a25]) (rest := []) (w' := (none, [(9, s)])) lk_0_148 pd_6 rfl oid_0 rfl rfl rfl rfl rfl rfl ⟨rfl, rfl, rfl, rfl, rfl⟩ d25_31 (c_k_userGranulesFor a25 s _ e5) ?_
  refine go_istore (pc := 34) (L' := [.val (.ref 1), .val (.int v1), .val (.int a5), .val (.int r9), .val (.int r15), .val (.int a25), .val (.int r31), .unset, .unset]) d25_34 rfl (go_aloadN (pc := 36) d25_36 rfl (go_iloadN (pc := 37) d25_37 rfl (go_aloadN (pc := 38) d25_38 rfl (go_getI (pc := 39) fs_46 hm_25 d25_39 (go_sipush (pc := 42) d25_42 cs_250 ?_)))))
  obtain ⟨r45, e6, hf⟩ := Option.bind_eq_some_iff.mp hf
  refine go_priv (pc := 45) (i := 0) (as := [.int a5, .int (gI s 1), .int (250 : Int32)]) (rest := []) (w' := (none, [(9, r45)])) lk_0_157 pd_12 rfl oid_0 rfl rfl rfl rfl rfl rfl ⟨rfl, rfl, rfl, rfl, rfl⟩ d25_45 (c_k_paintRange a5 (gI s 1) (250 : Int32) s _ e6) ?_
  refine go_aloadN (pc := 48) d25_48 rfl (go_iloadN (pc := 49) d25_49 rfl (go_iload (pc := 50) d25_50 rfl (go_iconst (pc := 52) d25_52 ci_0 ?_)))
  obtain ⟨r53, e7, hf⟩ := Option.bind_eq_some_iff.mp hf
  refine go_priv (pc := 53) (i := 0) (as := [.int r9, .int r31, .int (0 : Int32)]) (rest := []) (w' := (none, [(9, r53)])) lk_0_157 pd_12 rfl oid_0 rfl rfl rfl rfl rfl rfl ⟨rfl, rfl, rfl, rfl, rfl⟩ d25_53 (c_k_paintRange r9 r31 (0 : Int32) r45 _ e7) ?_
  refine go_aloadN (pc := 56) d25_56 rfl (go_iload (pc := 57) d25_57 rfl (go_aloadN (pc := 59) d25_59 rfl (go_getI (pc := 60) fs_46 hm_25 d25_60 (go_sipush (pc := 63) d25_63 cs_251 ?_))))
  obtain ⟨r66, e8, hf⟩ := Option.bind_eq_some_iff.mp hf
  refine go_priv (pc := 66) (i := 0) (as := [.int r15, .int (gI r53 1), .int (251 : Int32)]) (rest := []) (w' := (none, [(9, r66)])) lk_0_157 pd_12 rfl oid_0 rfl rfl rfl rfl rfl rfl ⟨rfl, rfl, rfl, rfl, rfl⟩ d25_66 (c_k_paintRange r15 (gI r53 1) (251 : Int32) r53 _ e8) ?_
  refine go_iload (pc := 69) d25_69 rfl (go_bipush (pc := 71) d25_71 cb_8 (go_irem (pc := 73) d25_73 (by decide) (go_istore (pc := 74) (L' := [.val (.ref 1), .val (.int v1), .val (.int a5), .val (.int r9), .val (.int r15), .val (.int a25), .val (.int r31), .val (.int (a25 % (8 : Int32))), .unset]) d25_74 rfl (go_iloadN (pc := 76) d25_76 rfl (go_iload (pc := 77) d25_77 rfl (go_iadd (pc := 79) d25_79 (go_iconst (pc := 80) d25_80 ci_1 ?_)))))))
  refine go_isub (pc := 81) d25_81 (go_istore (pc := 82) (L' := [.val (.ref 1), .val (.int v1), .val (.int a5), .val (.int r9), .val (.int r15), .val (.int a25), .val (.int r31), .val (.int (a25 % (8 : Int32))), .val (.int ((r9 + r31) - (1 : Int32)))]) d25_82 rfl (go_iload (pc := 84) d25_84 rfl ?_))
  by_cases h9 : (a25 % (8 : Int32)) = 0
  · replace hf := (if_pos h9).symm.trans hf
    refine go_ifY (pc := 86) (pc' := 112) d25_86 (XT.i0_eq_t h9) j_86_26 ?_
    cases hf
    exact go_ret (pc := 112) rfl d25_112
  · replace hf := (if_neg h9).symm.trans hf
    refine go_ifN (pc := 86) d25_86 (XT.i0_eq_f h9) ?_
    refine go_iload (pc := 89) d25_89 rfl ?_
    by_cases h10 : ((r9 + r31) - (1 : Int32)) < 0
    · replace hf := (if_pos h10).symm.trans hf
      refine go_ifY (pc := 91) (pc' := 112) d25_91 (XT.i0_lt_t h10) j_91_21 ?_
      cases hf
      exact go_ret (pc := 112) rfl d25_112
    · replace hf := (if_neg h10).symm.trans hf
      refine go_ifN (pc := 91) d25_91 (XT.i0_lt_f h10) ?_
      refine go_iload (pc := 94) d25_94 rfl (go_aloadN (pc := 96) d25_96 rfl (go_getI (pc := 97) fs_42 hm_25 d25_97 ?_))
      by_cases h11 : ((r9 + r31) - (1 : Int32)) < (gI r66 0)
      · replace hf := (if_pos h11).symm.trans hf
        refine go_icN (pc := 100) d25_100 (XT.ii_ge_f h11) ?_
        refine go_aloadN (pc := 103) d25_103 rfl (go_getA (pc := 104) fa_13 hm_25 d25_104 rfl (go_iload (pc := 107) d25_107 rfl (go_iload (pc := 109) d25_109 rfl ?_)))
        obtain ⟨a111, e12, hf⟩ := Option.bind_eq_some_iff.mp hf
        refine go_iastore (pc := 111) (q := 1) ar_1 rfl hn_25 e12 d25_111 ?_
        cases hf
        exact go_ret (pc := 112) rfl d25_112
      · replace hf := (if_neg h11).symm.trans hf
        refine go_icY (pc := 100) (pc' := 112) d25_100 (XT.ii_ge_t h11) j_100_12 ?_
        cases hf
        exact go_ret (pc := 112) rfl d25_112
theorem c_k_paintLiveChunk (v1 : Int32) (s : S) (o : S) (hf : k_paintLiveChunk v1 s = some o) : Call PP m25 [.ref 1, .int v1] (none, [(9, s)]) (none, (none, [(9, o)])) := call_of_go pl_0 rfl (fun _ => rfl) (k_paintLiveChunk_ok v1 s   _ hf)
set_option maxRecDepth 65536 in
set_option maxHeartbeats 4000000 in
theorem k_userAddressOf_ok  : ∀ (v1 : Int32) (s : S)  (o : Int32), k_userAddressOf v1 s = some o → Go PP m26 0 [.val (.ref 1), .val (.int v1), .unset] [] (none, [(9, s)]) (some (.int o), (none, [(9, s)])) := by
  intro v1 s o hf
  unfold k_userAddressOf at hf
  refine go_aloadN (pc := 0) d26_0 rfl (go_iloadN (pc := 1) d26_1 rfl ?_)
  obtain ⟨r2, e1, hf⟩ := Option.bind_eq_some_iff.mp hf
  refine go_priv (pc := 2) (i := 0) (as := [.int v1]) (rest := []) (w' := (none, [(9, s)])) lk_0_151 pd_23 rfl oid_0 rfl rfl rfl rfl rfl rfl ⟨rfl, rfl, rfl, rfl, rfl⟩ d26_2 (c_k_userGranule v1 s _ e1) ?_
  refine go_istoreN (pc := 5) (L' := [.val (.ref 1), .val (.int v1), .val (.int r2)]) d26_5 rfl (go_bipush (pc := 6) d26_6 cb_8 (go_iloadN (pc := 8) d26_8 rfl (go_imul (pc := 9) d26_9 ?_)))
  cases hf
  exact go_iret (pc := 10) rfl d26_10
theorem c_k_userAddressOf (v1 : Int32) (s : S) (o : Int32) (hf : k_userAddressOf v1 s = some o) : Call PP m26 [.ref 1, .int v1] (none, [(9, s)]) (some (.int o), (none, [(9, s)])) := call_of_go pl_0 rfl (fun h => nomatch h) (k_userAddressOf_ok v1 s   _ hf)
set_option maxRecDepth 65536 in
set_option maxHeartbeats 4000000 in
theorem k_zeroRequested_16_ok  : ∀ (n : Nat) (v2 : Int32) (v3 : Int32) (v4 : Int32) (s : S) (x1 : Slot) (x5 : Slot) (hx1 : k1 x1) (hx5 : k1 x5) (o : S), k_zeroRequested_16 n v2 v3 v4 s = some o → Go PP m27 16 [.val (.ref 1), x1, .val (.int v2), .val (.int v3), .val (.int v4), x5] [] (none, [(9, s)]) (none, (none, [(9, o)])) := by
  intro n
  induction n with
  | zero => intro v2 v3 v4 s x1 x5 hx1 hx5 o hf; exact nomatch hf
  | succ n ih =>
    intro v2 v3 v4 s x1 x5 hx1 hx5 o hf
    unfold k_zeroRequested_16 at hf
    refine go_iload (pc := 16) d27_16 rfl (go_iloadN (pc := 18) d27_18 rfl ?_)
    by_cases h1 : v4 < v3
    · replace hf := (if_pos h1).symm.trans hf
      refine go_icN (pc := 19) d27_19 (XT.ii_ge_f h1) ?_
      refine go_iload (pc := 22) d27_22 rfl (go_bipush (pc := 24) d27_24 cb_64 ?_)
      by_cases h2 : v4 < (64 : Int32)
      · replace hf := (if_pos h2).symm.trans hf
        refine go_icN (pc := 26) d27_26 (XT.ii_ge_f h2) ?_
        refine go_iloadN (pc := 29) d27_29 rfl (go_iload (pc := 30) d27_30 rfl (go_iadd (pc := 32) d27_32 (go_istore (pc := 33) (L' := [.val (.ref 1), x1, .val (.int v2), .val (.int v3), .val (.int v4), .val (.int (v2 + v4))]) d27_33 (stx rfl hx5 rfl) (go_iload (pc := 35) d27_35 rfl ?_))))
        by_cases h3 : (v2 + v4) < 0
        · replace hf := (if_pos h3).symm.trans hf
          refine go_ifY (pc := 37) (pc' := 57) d27_37 (XT.i0_lt_t h3) j_37_20 ?_
          refine go_iinc (pc := 57) (L' := [.val (.ref 1), x1, .val (.int v2), .val (.int v3), .val (.int (v4 + (1 : Int32))), .val (.int (v2 + v4))]) d27_57 rfl ci_1 rfl (go_goto (pc := 60) (pc' := 16) d27_60 j_60_m44 ?_)
          exact ih v2 v3 (v4 + (1 : Int32)) s x1 (.val (.int (v2 + v4))) hx1 (Or.inr ⟨_, rfl, rfl⟩) _ hf
        · replace hf := (if_neg h3).symm.trans hf
          refine go_ifN (pc := 37) d27_37 (XT.i0_lt_f h3) ?_
          refine go_iload (pc := 40) d27_40 rfl (go_aloadN (pc := 42) d27_42 rfl (go_getI (pc := 43) fs_52 hm_27 d27_43 ?_))
          by_cases h4 : (v2 + v4) < (gI s 3)
          · replace hf := (if_pos h4).symm.trans hf
            refine go_icN (pc := 46) d27_46 (XT.ii_ge_f h4) ?_
            refine go_aloadN (pc := 49) d27_49 rfl (go_getA (pc := 50) fa_7 hm_27 d27_50 rfl (go_iload (pc := 53) d27_53 rfl (go_iconst (pc := 55) d27_55 ci_0 ?_)))
            obtain ⟨a56, e5, hf⟩ := Option.bind_eq_some_iff.mp hf
            refine go_bastore (pc := 56) (q := 0) ar_0 (by decide) rfl hn_27 rfl e5 d27_56 ?_
            refine go_iinc (pc := 57) (L' := [.val (.ref 1), x1, .val (.int v2), .val (.int v3), .val (.int (v4 + (1 : Int32))), .val (.int (v2 + v4))]) d27_57 rfl ci_1 rfl (go_goto (pc := 60) (pc' := 16) d27_60 j_60_m44 ?_)
            exact ih v2 v3 (v4 + (1 : Int32)) (sA s 0 a56) x1 (.val (.int (v2 + v4))) hx1 (Or.inr ⟨_, rfl, rfl⟩) _ hf
          · replace hf := (if_neg h4).symm.trans hf
            refine go_icY (pc := 46) (pc' := 57) d27_46 (XT.ii_ge_t h4) j_46_11 ?_
            refine go_iinc (pc := 57) (L' := [.val (.ref 1), x1, .val (.int v2), .val (.int v3), .val (.int (v4 + (1 : Int32))), .val (.int (v2 + v4))]) d27_57 rfl ci_1 rfl (go_goto (pc := 60) (pc' := 16) d27_60 j_60_m44 ?_)
            exact ih v2 v3 (v4 + (1 : Int32)) s x1 (.val (.int (v2 + v4))) hx1 (Or.inr ⟨_, rfl, rfl⟩) _ hf
      · replace hf := (if_neg h2).symm.trans hf
        refine go_icY (pc := 26) (pc' := 63) d27_26 (XT.ii_ge_t h2) j_26_37 ?_
        cases hf
        exact go_ret (pc := 63) rfl d27_63
    · replace hf := (if_neg h1).symm.trans hf
      refine go_icY (pc := 19) (pc' := 63) d27_19 (XT.ii_ge_t h1) j_19_44 ?_
      cases hf
      exact go_ret (pc := 63) rfl d27_63
set_option maxRecDepth 65536 in
set_option maxHeartbeats 4000000 in
theorem k_zeroRequested_ok  : ∀ (v1 : Int32) (s : S)  (o : S), k_zeroRequested v1 s = some o → Go PP m27 0 [.val (.ref 1), .val (.int v1), .unset, .unset, .unset, .unset] [] (none, [(9, s)]) (none, (none, [(9, o)])) := by
  intro v1 s o hf
  unfold k_zeroRequested at hf
  refine go_aloadN (pc := 0) d27_0 rfl (go_iloadN (pc := 1) d27_1 rfl ?_)
  obtain ⟨r2, e1, hf⟩ := Option.bind_eq_some_iff.mp hf
  refine go_priv (pc := 2) (i := 0) (as := [.int v1]) (rest := []) (w' := (none, [(9, s)])) lk_0_142 pd_26 rfl oid_0 rfl rfl rfl rfl rfl rfl ⟨rfl, rfl, rfl, rfl, rfl⟩ d27_2 (c_k_userAddressOf v1 s _ e1) ?_
  refine go_istoreN (pc := 5) (L' := [.val (.ref 1), .val (.int v1), .val (.int r2), .unset, .unset, .unset]) d27_5 rfl (go_aloadN (pc := 6) d27_6 rfl (go_getA (pc := 7) fa_23 hm_27 d27_7 rfl (go_iloadN (pc := 10) d27_10 rfl ?_)))
  obtain ⟨a11, e2, hf⟩ := Option.bind_eq_some_iff.mp hf
  refine go_iaload (pc := 11) (q := 4) ar_4 rfl e2 d27_11 ?_
  refine go_istoreN (pc := 12) (L' := [.val (.ref 1), .val (.int v1), .val (.int r2), .val (.int a11), .unset, .unset]) d27_12 rfl (go_iconst (pc := 13) d27_13 ci_0 (go_istore (pc := 14) (L' := [.val (.ref 1), .val (.int v1), .val (.int r2), .val (.int a11), .val (.int (0 : Int32)), .unset]) d27_14 rfl ?_))
  exact k_zeroRequested_16_ok BIG r2 a11 (0 : Int32) s (.val (.int v1)) .unset (Or.inr ⟨_, rfl, rfl⟩) (Or.inl rfl) _ hf
theorem c_k_zeroRequested (v1 : Int32) (s : S) (o : S) (hf : k_zeroRequested v1 s = some o) : Call PP m27 [.ref 1, .int v1] (none, [(9, s)]) (none, (none, [(9, o)])) := call_of_go pl_0 rfl (fun _ => rfl) (k_zeroRequested_ok v1 s   _ hf)
set_option maxRecDepth 65536 in
set_option maxHeartbeats 4000000 in
theorem k_createChunk_ok  : ∀ (v1 : Int32) (v2 : Int32) (v3 : Int32) (s : S)  (o : Int32 × S), k_createChunk v1 v2 v3 s = some o → Go PP m28 0 [.val (.ref 1), .val (.int v1), .val (.int v2), .val (.int v3), .unset] [] (none, [(9, s)]) (some (.int o.1), (none, [(9, o.2)])) := by
  intro v1 v2 v3 s o hf
  unfold k_createChunk at hf
  refine go_aloadN (pc := 0) d28_0 rfl (go_getA (pc := 1) fa_20 hm_28 d28_1 rfl (go_iloadN (pc := 4) d28_4 rfl (go_iloadN (pc := 5) d28_5 rfl ?_)))
  obtain ⟨a6, e1, hf⟩ := Option.bind_eq_some_iff.mp hf
  refine go_iastore (pc := 6) (q := 3) ar_3 rfl hn_28 e1 d28_6 ?_
  refine go_aloadN (pc := 7) d28_7 rfl (go_getA (pc := 8) fa_23 hm_28 d28_8 rfl (go_iloadN (pc := 11) d28_11 rfl (go_iloadN (pc := 12) d28_12 rfl ?_)))
  obtain ⟨a13, e2, hf⟩ := Option.bind_eq_some_iff.mp hf
  refine go_iastore (pc := 13) (q := 4) ar_4 rfl hn_28 e2 d28_13 ?_
  refine go_aloadN (pc := 14) d28_14 rfl (go_getA (pc := 15) fa_26 hm_28 d28_15 rfl (go_iloadN (pc := 18) d28_18 rfl (go_iconst (pc := 19) d28_19 ci_1 ?_)))
  obtain ⟨a20, e3, hf⟩ := Option.bind_eq_some_iff.mp hf
  refine go_bastore (pc := 20) (q := 5) ar_5 (by decide) rfl hn_28 rfl e3 d28_20 ?_
  refine go_aloadN (pc := 21) d28_21 rfl (go_iloadN (pc := 22) d28_22 rfl ?_)
  obtain ⟨r23, e4, hf⟩ := Option.bind_eq_some_iff.mp hf
  refine go_priv (pc := 23) (i := 0) (as := [.int v3]) (rest := []) (w' := (none, [(9, sA (sA (sA s 3 a6) 4 a13) 5 a20)])) lk_0_80 pd_7 rfl oid_0 rfl rfl rfl rfl rfl rfl ⟨rfl, rfl, rfl, rfl, rfl⟩ d28_23 (c_k_spanFor v3 (sA (sA (sA s 3 a6) 4 a13) 5 a20) _ e4) ?_
  refine go_istore (pc := 26) (L' := [.val (.ref 1), .val (.int v1), .val (.int v2), .val (.int v3), .val (.int r23)]) d28_26 rfl (go_aloadN (pc := 28) d28_28 rfl (go_iloadN (pc := 29) d28_29 rfl (go_iload (pc := 30) d28_30 rfl (go_iloadN (pc := 32) d28_32 rfl ?_))))
  obtain ⟨r33, e5, hf⟩ := Option.bind_eq_some_iff.mp hf
  refine go_priv (pc := 33) (i := 0) (as := [.int v2, .int r23, .int v1]) (rest := []) (w' := (none, [(9, r33)])) lk_0_161 pd_13 rfl oid_0 rfl rfl rfl rfl rfl rfl ⟨rfl, rfl, rfl, rfl, rfl⟩ d28_33 (c_k_setOwner v2 r23 v1 (sA (sA (sA s 3 a6) 4 a13) 5 a20) _ e5) ?_
  refine go_aloadN (pc := 36) d28_36 rfl (go_iloadN (pc := 37) d28_37 rfl ?_)
  obtain ⟨r38, e6, hf⟩ := Option.bind_eq_some_iff.mp hf
  refine go_priv (pc := 38) (i := 0) (as := [.int v1]) (rest := []) (w' := (none, [(9, r38)])) lk_0_164 pd_25 rfl oid_0 rfl rfl rfl rfl rfl rfl ⟨rfl, rfl, rfl, rfl, rfl⟩ d28_38 (c_k_paintLiveChunk v1 r33 _ e6) ?_
  refine go_aloadN (pc := 41) d28_41 rfl (go_iloadN (pc := 42) d28_42 rfl ?_)
  obtain ⟨r43, e7, hf⟩ := Option.bind_eq_some_iff.mp hf
  refine go_priv (pc := 43) (i := 0) (as := [.int v1]) (rest := []) (w' := (none, [(9, r43)])) lk_0_167 pd_27 rfl oid_0 rfl rfl rfl rfl rfl rfl ⟨rfl, rfl, rfl, rfl, rfl⟩ d28_43 (c_k_zeroRequested v1 r38 _ e7) ?_
  refine go_aloadN (pc := 46) d28_46 rfl (go_dupR (pc := 47) d28_47 (go_getI (pc := 48) fs_67 hm_28 d28_48 (go_iconst (pc := 51) d28_51 ci_1 (go_iadd (pc := 52) d28_52 (go_putI (pc := 53) fs_67 hm_28 (wr_8 _) hn_28 d28_53 (go_aloadN (pc := 56) d28_56 rfl (go_iloadN (pc := 57) d28_57 rfl ?_)))))))
  obtain ⟨r58, e8, hf⟩ := Option.bind_eq_some_iff.mp hf
  refine go_priv (pc := 58) (i := 0) (as := [.int v1]) (rest := []) (w' := (none, [(9, sI r43 8 ((gI r43 8) + (1 : Int32)))])) lk_0_142 pd_26 rfl oid_0 rfl rfl rfl rfl rfl rfl ⟨rfl, rfl, rfl, rfl, rfl⟩ d28_58 (c_k_userAddressOf v1 (sI r43 8 ((gI r43 8) + (1 : Int32))) _ e8) ?_
  cases hf
  exact go_iret (pc := 61) rfl d28_61
theorem c_k_createChunk (v1 : Int32) (v2 : Int32) (v3 : Int32) (s : S) (o : Int32 × S) (hf : k_createChunk v1 v2 v3 s = some o) : Call PP m28 [.ref 1, .int v1, .int v2, .int v3] (none, [(9, s)]) (some (.int o.1), (none, [(9, o.2)])) := call_of_go pl_0 rfl (fun h => nomatch h) (k_createChunk_ok v1 v2 v3 s   _ hf)
set_option maxRecDepth 65536 in
set_option maxHeartbeats 4000000 in
theorem k_alloc_ok  : ∀ (v1 : Int32) (s : S)  (o : Int32 × S), k_alloc v1 s = some o → Go PP m29 0 [.val (.ref 1), .val (.int v1), .unset, .unset, .unset, .unset] [] (none, [(9, s)]) (some (.int o.1), (none, [(9, o.2)])) := by
  intro v1 s o hf
  unfold k_alloc at hf
  refine go_iloadN (pc := 0) d29_0 rfl (go_iconst (pc := 1) d29_1 ci_1 ?_)
  by_cases h1 : v1 < (1 : Int32)
  · replace hf := (if_pos h1).symm.trans hf
    refine go_icY (pc := 2) (pc' := 11) d29_2 (XT.ii_lt_t h1) j_2_9 ?_
    refine go_iconst (pc := 11) d29_11 ci_m1 ?_
    cases hf
    exact go_iret (pc := 12) rfl d29_12
  · replace hf := (if_neg h1).symm.trans hf
    refine go_icN (pc := 2) d29_2 (XT.ii_lt_f h1) ?_
    refine go_iloadN (pc := 5) d29_5 rfl (go_bipush (pc := 6) d29_6 cb_64 ?_)
    by_cases h2 : (64 : Int32) < v1
    · replace hf := (if_pos h2).symm.trans hf
      refine go_icN (pc := 8) d29_8 (XT.ii_le_f h2) ?_
      refine go_iconst (pc := 11) d29_11 ci_m1 ?_
      cases hf
      exact go_iret (pc := 12) rfl d29_12
    · replace hf := (if_neg h2).symm.trans hf
      refine go_icY (pc := 8) (pc' := 13) d29_8 (XT.ii_le_t h2) j_8_5 ?_
      refine go_aloadN (pc := 13) d29_13 rfl (go_iloadN (pc := 14) d29_14 rfl ?_)
      obtain ⟨r15, e3, hf⟩ := Option.bind_eq_some_iff.mp hf
      refine go_priv (pc := 15) (i := 0) (as := [.int v1]) (rest := []) (w' := (none, [(9, s)])) lk_0_80 pd_7 rfl oid_0 rfl rfl rfl rfl rfl rfl ⟨rfl, rfl, rfl, rfl, rfl⟩ d29_15 (c_k_spanFor v1 s _ e3) ?_
      refine go_istoreN (pc := 18) (L' := [.val (.ref 1), .val (.int v1), .val (.int r15), .unset, .unset, .unset]) d29_18 rfl (go_aloadN (pc := 19) d29_19 rfl (go_iloadN (pc := 20) d29_20 rfl ?_))
      obtain ⟨r21, e4, hf⟩ := Option.bind_eq_some_iff.mp hf
      refine go_priv (pc := 21) (i := 0) (as := [.int r15]) (rest := []) (w' := (none, [(9, r21.2)])) lk_0_84 pd_20 rfl oid_0 rfl rfl rfl rfl rfl rfl ⟨rfl, rfl, rfl, rfl, rfl⟩ d29_21 (c_k_findRoom r15 s _ e4) ?_
      refine go_istoreN (pc := 24) (L' := [.val (.ref 1), .val (.int v1), .val (.int r15), .val (.int r21.1), .unset, .unset]) d29_24 rfl (go_iloadN (pc := 25) d29_25 rfl ?_)
      by_cases h5 : r21.1 < 0
      · replace hf := (if_pos h5).symm.trans hf
        refine go_ifN (pc := 26) d29_26 (XT.i0_ge_f h5) ?_
        refine go_bipush (pc := 29) d29_29 cb_m2 ?_
        cases hf
        exact go_iret (pc := 31) rfl d29_31
      · replace hf := (if_neg h5).symm.trans hf
        refine go_ifY (pc := 26) (pc' := 32) d29_26 (XT.i0_ge_t h5) j_26_6 ?_
        refine go_aloadN (pc := 32) d29_32 rfl ?_
        obtain ⟨r33, e6, hf⟩ := Option.bind_eq_some_iff.mp hf
        refine go_priv (pc := 33) (i := 0) (as := []) (rest := []) (w' := (none, [(9, r21.2)])) lk_0_87 pd_21 rfl oid_0 rfl rfl rfl rfl rfl rfl ⟨rfl, rfl, rfl, rfl, rfl⟩ d29_33 (c_k_findUnusedSlot r21.2 _ e6) ?_
        refine go_istore (pc := 36) (L' := [.val (.ref 1), .val (.int v1), .val (.int r15), .val (.int r21.1), .val (.int r33), .unset]) d29_36 rfl (go_iload (pc := 38) d29_38 rfl ?_)
        by_cases h7 : r33 < 0
        · replace hf := (if_pos h7).symm.trans hf
          refine go_ifN (pc := 40) d29_40 (XT.i0_ge_f h7) ?_
          refine go_bipush (pc := 43) d29_43 cb_m2 ?_
          cases hf
          exact go_iret (pc := 45) rfl d29_45
        · replace hf := (if_neg h7).symm.trans hf
          refine go_ifY (pc := 40) (pc' := 46) d29_40 (XT.i0_ge_t h7) j_40_6 ?_
          refine go_aloadN (pc := 46) d29_46 rfl (go_getA (pc := 47) fa_32 hm_29 d29_47 rfl (go_iloadN (pc := 50) d29_50 rfl ?_))
          obtain ⟨a51, e8, hf⟩ := Option.bind_eq_some_iff.mp hf
          refine go_iaload (pc := 51) (q := 7) ar_7 rfl e8 d29_51 ?_
          refine go_istore (pc := 52) (L' := [.val (.ref 1), .val (.int v1), .val (.int r15), .val (.int r21.1), .val (.int r33), .val (.int a51)]) d29_52 rfl (go_aloadN (pc := 54) d29_54 rfl (go_iloadN (pc := 55) d29_55 rfl (go_iloadN (pc := 56) d29_56 rfl ?_)))
          obtain ⟨r57, e9, hf⟩ := Option.bind_eq_some_iff.mp hf
          refine go_priv (pc := 57) (i := 0) (as := [.int r21.1, .int r15]) (rest := []) (w' := (none, [(9, r57)])) lk_0_91 pd_22 rfl oid_0 rfl rfl rfl rfl rfl rfl ⟨rfl, rfl, rfl, rfl, rfl⟩ d29_57 (c_k_carveFront r21.1 r15 r21.2 _ e9) ?_
          refine go_aloadN (pc := 60) d29_60 rfl (go_iload (pc := 61) d29_61 rfl (go_iload (pc := 63) d29_63 rfl (go_iloadN (pc := 65) d29_65 rfl ?_)))
          obtain ⟨r66, e10, hf⟩ := Option.bind_eq_some_iff.mp hf
          refine go_priv (pc := 66) (i := 0) (as := [.int r33, .int a51, .int v1]) (rest := []) (w' := (none, [(9, r66.2)])) lk_0_95 pd_28 rfl oid_0 rfl rfl rfl rfl rfl rfl ⟨rfl, rfl, rfl, rfl, rfl⟩ d29_66 (c_k_createChunk r33 a51 v1 r57 _ e10) ?_
          cases hf
          exact go_iret (pc := 69) rfl d29_69
theorem c_k_alloc (v1 : Int32) (s : S) (o : Int32 × S) (hf : k_alloc v1 s = some o) : Call PP m29 [.ref 1, .int v1] (none, [(9, s)]) (some (.int o.1), (none, [(9, o.2)])) := call_of_go pl_0 rfl (fun h => nomatch h) (k_alloc_ok v1 s   _ hf)
set_option maxRecDepth 65536 in
set_option maxHeartbeats 4000000 in
theorem k_quarantineCount_ok  : ∀  (s : S)  (o : Int32), k_quarantineCount s = o → Go PP m30 0 [.val (.ref 1)] [] (none, [(9, s)]) (some (.int o), (none, [(9, s)])) := by
  intro s o hf
  unfold k_quarantineCount at hf
  refine go_aloadN (pc := 0) d30_0 rfl (go_getI (pc := 1) fs_130 hm_30 d30_1 ?_)
  cases hf
  exact go_iret (pc := 4) rfl d30_4
theorem c_k_quarantineCount (s : S) : Call PP m30 [.ref 1] (none, [(9, s)]) (some (.int (k_quarantineCount s)), (none, [(9, s)])) := call_of_go pl_0 rfl (fun h => nomatch h) (k_quarantineCount_ok s   _ rfl)
set_option maxRecDepth 65536 in
set_option maxHeartbeats 4000000 in
theorem k_quarantineBytes_ok  : ∀  (s : S)  (o : Int32), k_quarantineBytes s = o → Go PP m31 0 [.val (.ref 1)] [] (none, [(9, s)]) (some (.int o), (none, [(9, s)])) := by
  intro s o hf
  unfold k_quarantineBytes at hf
  refine go_aloadN (pc := 0) d31_0 rfl (go_getI (pc := 1) fs_133 hm_31 d31_1 ?_)
  cases hf
  exact go_iret (pc := 4) rfl d31_4
theorem c_k_quarantineBytes (s : S) : Call PP m31 [.ref 1] (none, [(9, s)]) (some (.int (k_quarantineBytes s)), (none, [(9, s)])) := call_of_go pl_0 rfl (fun h => nomatch h) (k_quarantineBytes_ok s   _ rfl)
set_option maxRecDepth 65536 in
set_option maxHeartbeats 4000000 in
theorem k_largestFreeRun_4_ok  : ∀ (n : Nat) (v1 : Int32) (v2 : Int32) (s : S)  (o : Int32), k_largestFreeRun_4 n v1 v2 s = some o → Go PP m32 4 [.val (.ref 1), .val (.int v1), .val (.int v2)] [] (none, [(9, s)]) (some (.int o), (none, [(9, s)])) := by
  intro n
  induction n with
  | zero => intro v1 v2 s o hf; exact nomatch hf
  | succ n ih =>
    intro v1 v2 s o hf
    unfold k_largestFreeRun_4 at hf
    refine go_iloadN (pc := 4) d32_4 rfl (go_aloadN (pc := 5) d32_5 rfl (go_getI (pc := 6) fs_145 hm_32 d32_6 ?_))
    by_cases h1 : v2 < (gI s 7)
    · replace hf := (if_pos h1).symm.trans hf
      refine go_icN (pc := 9) d32_9 (XT.ii_ge_f h1) ?_
      refine go_iloadN (pc := 12) d32_12 rfl (go_bipush (pc := 13) d32_13 cb_32 ?_)
      by_cases h2 : v2 < (32 : Int32)
      · replace hf := (if_pos h2).symm.trans hf
        refine go_icN (pc := 15) d32_15 (XT.ii_ge_f h2) ?_
        refine go_aloadN (pc := 18) d32_18 rfl (go_getA (pc := 19) fa_35 hm_32 d32_19 rfl (go_iloadN (pc := 22) d32_22 rfl ?_))
        obtain ⟨a23, e3, hf⟩ := Option.bind_eq_some_iff.mp hf
        refine go_iaload (pc := 23) (q := 8) ar_8 rfl e3 d32_23 ?_
        refine go_iloadN (pc := 24) d32_24 rfl ?_
        by_cases h4 : v1 < a23
        · replace hf := (if_pos h4).symm.trans hf
          refine go_icN (pc := 25) d32_25 (XT.ii_le_f h4) ?_
          refine go_aloadN (pc := 28) d32_28 rfl (go_getA (pc := 29) fa_35 hm_32 d32_29 rfl (go_iloadN (pc := 32) d32_32 rfl ?_))
          obtain ⟨a33, e5, hf⟩ := Option.bind_eq_some_iff.mp hf
          refine go_iaload (pc := 33) (q := 8) ar_8 rfl e5 d32_33 ?_
          refine go_istoreN (pc := 34) (L' := [.val (.ref 1), .val (.int a33), .val (.int v2)]) d32_34 rfl (go_iinc (pc := 35) (L' := [.val (.ref 1), .val (.int a33), .val (.int (v2 + (1 : Int32)))]) d32_35 rfl ci_1 rfl (go_goto (pc := 38) (pc' := 4) d32_38 j_38_m34 ?_))
          exact ih a33 (v2 + (1 : Int32)) s _ hf
        · replace hf := (if_neg h4).symm.trans hf
          refine go_icY (pc := 25) (pc' := 35) d32_25 (XT.ii_le_t h4) j_25_10 ?_
          refine go_iinc (pc := 35) (L' := [.val (.ref 1), .val (.int v1), .val (.int (v2 + (1 : Int32)))]) d32_35 rfl ci_1 rfl (go_goto (pc := 38) (pc' := 4) d32_38 j_38_m34 ?_)
          exact ih v1 (v2 + (1 : Int32)) s _ hf
      · replace hf := (if_neg h2).symm.trans hf
        refine go_icY (pc := 15) (pc' := 41) d32_15 (XT.ii_ge_t h2) j_15_26 ?_
        refine go_iloadN (pc := 41) d32_41 rfl ?_
        cases hf
        exact go_iret (pc := 42) rfl d32_42
    · replace hf := (if_neg h1).symm.trans hf
      refine go_icY (pc := 9) (pc' := 41) d32_9 (XT.ii_ge_t h1) j_9_32 ?_
      refine go_iloadN (pc := 41) d32_41 rfl ?_
      cases hf
      exact go_iret (pc := 42) rfl d32_42
set_option maxRecDepth 65536 in
set_option maxHeartbeats 4000000 in
theorem k_largestFreeRun_ok  : ∀  (s : S)  (o : Int32), k_largestFreeRun s = some o → Go PP m32 0 [.val (.ref 1), .unset, .unset] [] (none, [(9, s)]) (some (.int o), (none, [(9, s)])) := by
  intro s o hf
  unfold k_largestFreeRun at hf
  refine go_iconst (pc := 0) d32_0 ci_0 (go_istoreN (pc := 1) (L' := [.val (.ref 1), .val (.int (0 : Int32)), .unset]) d32_1 rfl (go_iconst (pc := 2) d32_2 ci_0 (go_istoreN (pc := 3) (L' := [.val (.ref 1), .val (.int (0 : Int32)), .val (.int (0 : Int32))]) d32_3 rfl ?_)))
  exact k_largestFreeRun_4_ok BIG (0 : Int32) (0 : Int32) s _ hf
theorem c_k_largestFreeRun (s : S) (o : Int32) (hf : k_largestFreeRun s = some o) : Call PP m32 [.ref 1] (none, [(9, s)]) (some (.int o), (none, [(9, s)])) := call_of_go pl_0 rfl (fun h => nomatch h) (k_largestFreeRun_ok s   _ hf)
set_option maxRecDepth 65536 in
set_option maxHeartbeats 4000000 in
theorem k_slotForUserAddress_ok  : ∀ (v1 : Int32) (s : S)  (o : Int32), k_slotForUserAddress v1 s = some o → Go PP m33 0 [.val (.ref 1), .val (.int v1), .unset, .unset] [] (none, [(9, s)]) (some (.int o), (none, [(9, s)])) := by
  intro v1 s o hf
  unfold k_slotForUserAddress at hf
  refine go_iloadN (pc := 0) d33_0 rfl ?_
  by_cases h1 : v1 < 0
  · replace hf := (if_pos h1).symm.trans hf
    refine go_ifY (pc := 1) (pc' := 12) d33_1 (XT.i0_lt_t h1) j_1_11 ?_
    refine go_iconst (pc := 12) d33_12 ci_m1 ?_
    cases hf
    exact go_iret (pc := 13) rfl d33_13
  · replace hf := (if_neg h1).symm.trans hf
    refine go_ifN (pc := 1) d33_1 (XT.i0_lt_f h1) ?_
    refine go_iloadN (pc := 4) d33_4 rfl (go_aloadN (pc := 5) d33_5 rfl (go_getI (pc := 6) fs_52 hm_33 d33_6 ?_))
    by_cases h2 : v1 < (gI s 3)
    · replace hf := (if_pos h2).symm.trans hf
      refine go_icY (pc := 9) (pc' := 14) d33_9 (XT.ii_lt_t h2) j_9_5 ?_
      refine go_iloadN (pc := 14) d33_14 rfl (go_bipush (pc := 15) d33_15 cb_7 (go_iand (pc := 17) d33_17 ?_))
      by_cases h3 : (v1 &&& (7 : Int32)) = 0
      · replace hf := (if_pos h3).symm.trans hf
        refine go_ifY (pc := 18) (pc' := 23) d33_18 (XT.i0_eq_t h3) j_18_5 ?_
        refine go_iloadN (pc := 23) d33_23 rfl (go_iconst (pc := 24) d33_24 ci_3 (go_ishr (pc := 25) d33_25 (go_istoreN (pc := 26) (L' := [.val (.ref 1), .val (.int v1), .val (.int (v1 >>> ((3 : Int32) &&& 31))), .unset]) d33_26 rfl (go_aloadN (pc := 27) d33_27 rfl (go_getA (pc := 28) fa_17 hm_33 d33_28 rfl (go_iloadN (pc := 31) d33_31 rfl ?_))))))
        obtain ⟨a32, e4, hf⟩ := Option.bind_eq_some_iff.mp hf
        refine go_iaload (pc := 32) (q := 2) ar_2 rfl e4 d33_32 ?_
        refine go_istoreN (pc := 33) (L' := [.val (.ref 1), .val (.int v1), .val (.int (v1 >>> ((3 : Int32) &&& 31))), .val (.int a32)]) d33_33 rfl (go_aloadN (pc := 34) d33_34 rfl (go_iloadN (pc := 35) d33_35 rfl ?_))
        refine go_priv (pc := 36) (i := 0) (as := [.int a32]) (rest := []) (w' := (none, [(9, s)])) lk_0_139 pd_9 rfl oid_0 rfl rfl rfl rfl rfl rfl ⟨rfl, rfl, rfl, rfl, rfl⟩ d33_36 (c_k_validSlot a32 s) ?_
        by_cases h5 : (k_validSlot a32) = 0
        · replace hf := (if_pos h5).symm.trans hf
          refine go_ifN (pc := 39) d33_39 (XT.i0_ne_f h5) ?_
          refine go_iconst (pc := 42) d33_42 ci_m1 ?_
          cases hf
          exact go_iret (pc := 43) rfl d33_43
        · replace hf := (if_neg h5).symm.trans hf
          refine go_ifY (pc := 39) (pc' := 44) d33_39 (XT.i0_ne_t h5) j_39_5 ?_
          refine go_aloadN (pc := 44) d33_44 rfl (go_getA (pc := 45) fa_26 hm_33 d33_45 rfl (go_iloadN (pc := 48) d33_48 rfl ?_))
          obtain ⟨a49, e6, hf⟩ := Option.bind_eq_some_iff.mp hf
          refine go_baload (pc := 49) (q := 5) ar_5 (by decide) rfl e6 d33_49 ?_
          by_cases h7 : a49 = 0
          · replace hf := (if_pos h7).symm.trans hf
            refine go_ifN (pc := 50) d33_50 (XT.i0_ne_f h7) ?_
            refine go_iconst (pc := 53) d33_53 ci_m1 ?_
            cases hf
            exact go_iret (pc := 54) rfl d33_54
          · replace hf := (if_neg h7).symm.trans hf
            refine go_ifY (pc := 50) (pc' := 55) d33_50 (XT.i0_ne_t h7) j_50_5 ?_
            refine go_aloadN (pc := 55) d33_55 rfl (go_iloadN (pc := 56) d33_56 rfl ?_)
            obtain ⟨r57, e8, hf⟩ := Option.bind_eq_some_iff.mp hf
            refine go_priv (pc := 57) (i := 0) (as := [.int a32]) (rest := []) (w' := (none, [(9, s)])) lk_0_151 pd_23 rfl oid_0 rfl rfl rfl rfl rfl rfl ⟨rfl, rfl, rfl, rfl, rfl⟩ d33_57 (c_k_userGranule a32 s _ e8) ?_
            refine go_iloadN (pc := 60) d33_60 rfl ?_
            by_cases h9 : r57 = (v1 >>> ((3 : Int32) &&& 31))
            · replace hf := (if_pos h9).symm.trans hf
              refine go_icY (pc := 61) (pc' := 66) d33_61 (XT.ii_eq_t h9) j_61_5 ?_
              refine go_iloadN (pc := 66) d33_66 rfl ?_
              cases hf
              exact go_iret (pc := 67) rfl d33_67
            · replace hf := (if_neg h9).symm.trans hf
              refine go_icN (pc := 61) d33_61 (XT.ii_eq_f h9) ?_
              refine go_iconst (pc := 64) d33_64 ci_m1 ?_
              cases hf
              exact go_iret (pc := 65) rfl d33_65
      · replace hf := (if_neg h3).symm.trans hf
        refine go_ifN (pc := 18) d33_18 (XT.i0_eq_f h3) ?_
        refine go_iconst (pc := 21) d33_21 ci_m1 ?_
        cases hf
        exact go_iret (pc := 22) rfl d33_22
    · replace hf := (if_neg h2).symm.trans hf
      refine go_icN (pc := 9) d33_9 (XT.ii_lt_f h2) ?_
      refine go_iconst (pc := 12) d33_12 ci_m1 ?_
      cases hf
      exact go_iret (pc := 13) rfl d33_13
theorem c_k_slotForUserAddress (v1 : Int32) (s : S) (o : Int32) (hf : k_slotForUserAddress v1 s = some o) : Call PP m33 [.ref 1, .int v1] (none, [(9, s)]) (some (.int o), (none, [(9, s)])) := call_of_go pl_0 rfl (fun h => nomatch h) (k_slotForUserAddress_ok v1 s   _ hf)
set_option maxRecDepth 65536 in
set_option maxHeartbeats 4000000 in
theorem k_isLive_ok  : ∀ (v1 : Int32) (s : S)  (o : Int32), k_isLive v1 s = some o → Go PP m34 0 [.val (.ref 1), .val (.int v1)] [] (none, [(9, s)]) (some (.int o), (none, [(9, s)])) := by
  intro v1 s o hf
  unfold k_isLive at hf
  refine go_aloadN (pc := 0) d34_0 rfl (go_iloadN (pc := 1) d34_1 rfl ?_)
  refine go_priv (pc := 2) (i := 0) (as := [.int v1]) (rest := []) (w' := (none, [(9, s)])) lk_0_139 pd_9 rfl oid_0 rfl rfl rfl rfl rfl rfl ⟨rfl, rfl, rfl, rfl, rfl⟩ d34_2 (c_k_validSlot v1 s) ?_
  by_cases h1 : (k_validSlot v1) = 0
  · replace hf := (if_pos h1).symm.trans hf
    refine go_ifY (pc := 5) (pc' := 22) d34_5 (XT.i0_eq_t h1) j_5_17 ?_
    refine go_iconst (pc := 22) d34_22 ci_0 ?_
    cases hf
    exact go_zret (pc := 23) rfl d34_23 (show (0 : Int32) = nar .boolean (0 : Int32) by decide)
  · replace hf := (if_neg h1).symm.trans hf
    refine go_ifN (pc := 5) d34_5 (XT.i0_eq_f h1) ?_
    refine go_aloadN (pc := 8) d34_8 rfl (go_getA (pc := 9) fa_26 hm_34 d34_9 rfl (go_iloadN (pc := 12) d34_12 rfl ?_))
    obtain ⟨a13, e2, hf⟩ := Option.bind_eq_some_iff.mp hf
    refine go_baload (pc := 13) (q := 5) ar_5 (by decide) rfl e2 d34_13 ?_
    refine go_iconst (pc := 14) d34_14 ci_1 ?_
    by_cases h3 : a13 = (1 : Int32)
    · replace hf := (if_pos h3).symm.trans hf
      refine go_icN (pc := 15) d34_15 (XT.ii_ne_f h3) ?_
      refine go_iconst (pc := 18) d34_18 ci_1 (go_goto (pc := 19) (pc' := 23) d34_19 j_19_4 ?_)
      cases hf
      exact go_zret (pc := 23) rfl d34_23 (show (1 : Int32) = nar .boolean (1 : Int32) by decide)
    · replace hf := (if_neg h3).symm.trans hf
      refine go_icY (pc := 15) (pc' := 22) d34_15 (XT.ii_ne_t h3) j_15_7 ?_
      refine go_iconst (pc := 22) d34_22 ci_0 ?_
      cases hf
      exact go_zret (pc := 23) rfl d34_23 (show (0 : Int32) = nar .boolean (0 : Int32) by decide)
theorem c_k_isLive (v1 : Int32) (s : S) (o : Int32) (hf : k_isLive v1 s = some o) : Call PP m34 [.ref 1, .int v1] (none, [(9, s)]) (some (.int o), (none, [(9, s)])) := call_of_go pl_0 rfl (fun h => nomatch h) (k_isLive_ok v1 s   _ hf)
set_option maxRecDepth 65536 in
set_option maxHeartbeats 4000000 in
theorem k_userSize_ok  : ∀ (v1 : Int32) (s : S)  (o : Int32), k_userSize v1 s = some o → Go PP m35 0 [.val (.ref 1), .val (.int v1), .unset] [] (none, [(9, s)]) (some (.int o), (none, [(9, s)])) := by
  intro v1 s o hf
  unfold k_userSize at hf
  refine go_aloadN (pc := 0) d35_0 rfl (go_iloadN (pc := 1) d35_1 rfl ?_)
  obtain ⟨r2, e1, hf⟩ := Option.bind_eq_some_iff.mp hf
  refine go_priv (pc := 2) (i := 0) (as := [.int v1]) (rest := []) (w' := (none, [(9, s)])) lk_0_98 pd_33 rfl oid_0 rfl rfl rfl rfl rfl rfl ⟨rfl, rfl, rfl, rfl, rfl⟩ d35_2 (c_k_slotForUserAddress v1 s _ e1) ?_
  refine go_istoreN (pc := 5) (L' := [.val (.ref 1), .val (.int v1), .val (.int r2)]) d35_5 rfl (go_aloadN (pc := 6) d35_6 rfl (go_iloadN (pc := 7) d35_7 rfl ?_))
  obtain ⟨r8, e2, hf⟩ := Option.bind_eq_some_iff.mp hf
  refine go_priv (pc := 8) (i := 0) (as := [.int r2]) (rest := []) (w' := (none, [(9, s)])) lk_0_105 pd_34 rfl oid_0 rfl rfl rfl rfl rfl rfl ⟨rfl, rfl, rfl, rfl, rfl⟩ d35_8 (c_k_isLive r2 s _ e2) ?_
  by_cases h3 : r8 = 0
  · replace hf := (if_pos h3).symm.trans hf
    refine go_ifN (pc := 11) d35_11 (XT.i0_ne_f h3) ?_
    refine go_iconst (pc := 14) d35_14 ci_m1 ?_
    cases hf
    exact go_iret (pc := 15) rfl d35_15
  · replace hf := (if_neg h3).symm.trans hf
    refine go_ifY (pc := 11) (pc' := 16) d35_11 (XT.i0_ne_t h3) j_11_5 ?_
    refine go_aloadN (pc := 16) d35_16 rfl (go_getA (pc := 17) fa_23 hm_35 d35_17 rfl (go_iloadN (pc := 20) d35_20 rfl ?_))
    obtain ⟨a21, e4, hf⟩ := Option.bind_eq_some_iff.mp hf
    refine go_iaload (pc := 21) (q := 4) ar_4 rfl e4 d35_21 ?_
    cases hf
    exact go_iret (pc := 22) rfl d35_22
theorem c_k_userSize (v1 : Int32) (s : S) (o : Int32) (hf : k_userSize v1 s = some o) : Call PP m35 [.ref 1, .int v1] (none, [(9, s)]) (some (.int o), (none, [(9, s)])) := call_of_go pl_0 rfl (fun h => nomatch h) (k_userSize_ok v1 s   _ hf)
set_option maxRecDepth 65536 in
set_option maxHeartbeats 4000000 in
theorem k_shadow_ok  : ∀ (v1 : Int32) (s : S)  (o : Int32), k_shadow v1 s = some o → Go PP m36 0 [.val (.ref 1), .val (.int v1)] [] (none, [(9, s)]) (some (.int o), (none, [(9, s)])) := by
  intro v1 s o hf
  unfold k_shadow at hf
  refine go_iloadN (pc := 0) d36_0 rfl ?_
  by_cases h1 : v1 < 0
  · replace hf := (if_pos h1).symm.trans hf
    refine go_ifY (pc := 1) (pc' := 12) d36_1 (XT.i0_lt_t h1) j_1_11 ?_
    refine go_iconst (pc := 12) d36_12 ci_m1 ?_
    cases hf
    exact go_iret (pc := 13) rfl d36_13
  · replace hf := (if_neg h1).symm.trans hf
    refine go_ifN (pc := 1) d36_1 (XT.i0_lt_f h1) ?_
    refine go_iloadN (pc := 4) d36_4 rfl (go_aloadN (pc := 5) d36_5 rfl (go_getI (pc := 6) fs_42 hm_36 d36_6 ?_))
    by_cases h2 : v1 < (gI s 0)
    · replace hf := (if_pos h2).symm.trans hf
      refine go_icY (pc := 9) (pc' := 14) d36_9 (XT.ii_lt_t h2) j_9_5 ?_
      refine go_aloadN (pc := 14) d36_14 rfl (go_getA (pc := 15) fa_13 hm_36 d36_15 rfl (go_iloadN (pc := 18) d36_18 rfl ?_))
      obtain ⟨a19, e3, hf⟩ := Option.bind_eq_some_iff.mp hf
      refine go_iaload (pc := 19) (q := 1) ar_1 rfl e3 d36_19 ?_
      cases hf
      exact go_iret (pc := 20) rfl d36_20
    · replace hf := (if_neg h2).symm.trans hf
      refine go_icN (pc := 9) d36_9 (XT.ii_lt_f h2) ?_
      refine go_iconst (pc := 12) d36_12 ci_m1 ?_
      cases hf
      exact go_iret (pc := 13) rfl d36_13
theorem c_k_shadow (v1 : Int32) (s : S) (o : Int32) (hf : k_shadow v1 s = some o) : Call PP m36 [.ref 1, .int v1] (none, [(9, s)]) (some (.int o), (none, [(9, s)])) := call_of_go pl_0 rfl (fun h => nomatch h) (k_shadow_ok v1 s   _ hf)
set_option maxRecDepth 65536 in
set_option maxHeartbeats 4000000 in
theorem k_paintQuarantined_ok  : ∀ (v1 : Int32) (s : S)  (o : S), k_paintQuarantined v1 s = some o → Go PP m37 0 [.val (.ref 1), .val (.int v1), .unset, .unset, .unset] [] (none, [(9, s)]) (none, (none, [(9, o)])) := by
  intro v1 s o hf
  unfold k_paintQuarantined at hf
  refine go_aloadN (pc := 0) d37_0 rfl (go_iloadN (pc := 1) d37_1 rfl ?_)
  obtain ⟨r2, e1, hf⟩ := Option.bind_eq_some_iff.mp hf
  refine go_priv (pc := 2) (i := 0) (as := [.int v1]) (rest := []) (w' := (none, [(9, s)])) lk_0_151 pd_23 rfl oid_0 rfl rfl rfl rfl rfl rfl ⟨rfl, rfl, rfl, rfl, rfl⟩ d37_2 (c_k_userGranule v1 s _ e1) ?_
  refine go_istoreN (pc := 5) (L' := [.val (.ref 1), .val (.int v1), .val (.int r2), .unset, .unset]) d37_5 rfl (go_aloadN (pc := 6) d37_6 rfl (go_getA (pc := 7) fa_23 hm_37 d37_7 rfl (go_iloadN (pc := 10) d37_10 rfl ?_)))
  obtain ⟨a11, e2, hf⟩ := Option.bind_eq_some_iff.mp hf
  refine go_iaload (pc := 11) (q := 4) ar_4 rfl e2 d37_11 ?_
  refine go_istoreN (pc := 12) (L' := [.val (.ref 1), .val (.int v1), .val (.int r2), .val (.int a11), .unset]) d37_12 rfl (go_aloadN (pc := 13) d37_13 rfl (go_iloadN (pc := 14) d37_14 rfl ?_))
  obtain ⟨r15, e3, hf⟩ := Option.bind_eq_some_iff.mp hf
  refine go_priv (pc := 15) (i := 0) (as := [.int a11]) (rest := []) (w' := (none, [(9, s)])) lk_0_148 pd_6 rfl oid_0 rfl rfl rfl rfl rfl rfl ⟨rfl, rfl, rfl, rfl, rfl⟩ d37_15 (c_k_userGranulesFor a11 s _ e3) ?_
  refine go_istore (pc := 18) (L' := [.val (.ref 1), .val (.int v1), .val (.int r2), .val (.int a11), .val (.int r15)]) d37_18 rfl (go_aloadN (pc := 20) d37_20 rfl (go_iloadN (pc := 21) d37_21 rfl (go_iload (pc := 22) d37_22 rfl (go_sipush (pc := 24) d37_24 cs_253 ?_))))
  obtain ⟨r27, e4, hf⟩ := Option.bind_eq_some_iff.mp hf
  refine go_priv (pc := 27) (i := 0) (as := [.int r2, .int r15, .int (253 : Int32)]) (rest := []) (w' := (none, [(9, r27)])) lk_0_157 pd_12 rfl oid_0 rfl rfl rfl rfl rfl rfl ⟨rfl, rfl, rfl, rfl, rfl⟩ d37_27 (c_k_paintRange r2 r15 (253 : Int32) s _ e4) ?_
  cases hf
  exact go_ret (pc := 30) rfl d37_30
theorem c_k_paintQuarantined (v1 : Int32) (s : S) (o : S) (hf : k_paintQuarantined v1 s = some o) : Call PP m37 [.ref 1, .int v1] (none, [(9, s)]) (none, (none, [(9, o)])) := call_of_go pl_0 rfl (fun _ => rfl) (k_paintQuarantined_ok v1 s   _ hf)
set_option maxRecDepth 65536 in
set_option maxHeartbeats 4000000 in
theorem k_enqueue_13_ok  : ∀ (v1 : Int32) (s : S)  (o : S), k_enqueue_13 v1 s = some o → Go PP m38 13 [.val (.ref 1), .val (.int v1), .unset] [] (none, [(9, s)]) (none, (none, [(9, o)])) := by
  intro v1 s o hf
  unfold k_enqueue_13 at hf
  refine go_aloadN (pc := 13) d38_13 rfl (go_getI (pc := 14) fs_136 hm_38 d38_14 (go_aloadN (pc := 17) d38_17 rfl (go_getI (pc := 18) fs_130 hm_38 d38_18 (go_iadd (pc := 21) d38_21 (go_bipush (pc := 22) d38_22 cb_31 (go_iand (pc := 24) d38_24 (go_istoreN (pc := 25) (L' := [.val (.ref 1), .val (.int v1), .val (.int (((gI s 4) + (gI s 5)) &&& (31 : Int32)))]) d38_25 rfl ?_)))))))
  refine go_aloadN (pc := 26) d38_26 rfl (go_getA (pc := 27) fa_29 hm_38 d38_27 rfl (go_iloadN (pc := 30) d38_30 rfl (go_iloadN (pc := 31) d38_31 rfl ?_)))
  obtain ⟨a32, e1, hf⟩ := Option.bind_eq_some_iff.mp hf
  refine go_iastore (pc := 32) (q := 6) ar_6 rfl hn_38 e1 d38_32 ?_
  refine go_aloadN (pc := 33) d38_33 rfl (go_dupR (pc := 34) d38_34 (go_getI (pc := 35) fs_130 hm_38 d38_35 (go_iconst (pc := 38) d38_38 ci_1 (go_iadd (pc := 39) d38_39 (go_putI (pc := 40) fs_130 hm_38 (wr_5 _) hn_38 d38_40 (go_aloadN (pc := 43) d38_43 rfl (go_dupR (pc := 44) d38_44 ?_)))))))
  refine go_getI (pc := 45) fs_133 hm_38 d38_45 (go_aloadN (pc := 48) d38_48 rfl (go_iloadN (pc := 49) d38_49 rfl ?_))
  obtain ⟨r50, e2, hf⟩ := Option.bind_eq_some_iff.mp hf
  refine go_priv (pc := 50) (i := 0) (as := [.int v1]) (rest := [.int (gI s 6), .ref 1]) (w' := (none, [(9, sI (sA s 6 a32) 5 ((gI s 5) + (1 : Int32)))])) lk_0_182 pd_10 rfl oid_0 rfl rfl rfl rfl rfl rfl ⟨rfl, rfl, rfl, rfl, rfl⟩ d38_50 (c_k_weightOf v1 (sI (sA s 6 a32) 5 ((gI s 5) + (1 : Int32))) _ e2) ?_
  refine go_iadd (pc := 53) d38_53 (go_putI (pc := 54) fs_133 hm_38 (wr_6 _) hn_38 d38_54 ?_)
  cases hf
  exact go_ret (pc := 57) rfl d38_57
set_option maxRecDepth 65536 in
set_option maxHeartbeats 4000000 in
theorem k_enqueue_ok  : ∀ (v1 : Int32) (s : S)  (o : S), k_enqueue v1 s = some o → Go PP m38 0 [.val (.ref 1), .val (.int v1), .unset] [] (none, [(9, s)]) (none, (none, [(9, o)])) := by
  intro v1 s o hf
  unfold k_enqueue at hf
  refine go_aloadN (pc := 0) d38_0 rfl (go_getI (pc := 1) fs_130 hm_38 d38_1 (go_bipush (pc := 4) d38_4 cb_32 ?_))
  by_cases h1 : (gI s 5) < (32 : Int32)
  · replace hf := (if_pos h1).symm.trans hf
    refine go_icY (pc := 6) (pc' := 13) d38_6 (XT.ii_lt_t h1) j_6_7 ?_
    exact k_enqueue_13_ok v1 s _ hf
  · replace hf := (if_neg h1).symm.trans hf
    refine go_icN (pc := 6) d38_6 (XT.ii_lt_f h1) ?_
    refine go_aloadN (pc := 9) d38_9 rfl ?_
    obtain ⟨r10, e2, hf⟩ := Option.bind_eq_some_iff.mp hf
    refine go_priv (pc := 10) (i := 0) (as := []) (rest := []) (w' := (none, [(9, r10)])) lk_0_179 pd_19 rfl oid_0 rfl rfl rfl rfl rfl rfl ⟨rfl, rfl, rfl, rfl, rfl⟩ d38_10 (c_k_evictOldest s _ e2) ?_
    exact k_enqueue_13_ok v1 r10 _ hf
theorem c_k_enqueue (v1 : Int32) (s : S) (o : S) (hf : k_enqueue v1 s = some o) : Call PP m38 [.ref 1, .int v1] (none, [(9, s)]) (none, (none, [(9, o)])) := call_of_go pl_0 rfl (fun _ => rfl) (k_enqueue_ok v1 s   _ hf)
set_option maxRecDepth 65536 in
set_option maxHeartbeats 4000000 in
theorem k_quarantineChunk_ok  : ∀ (v1 : Int32) (s : S)  (o : S), k_quarantineChunk v1 s = some o → Go PP m39 0 [.val (.ref 1), .val (.int v1)] [] (none, [(9, s)]) (none, (none, [(9, o)])) := by
  intro v1 s o hf
  unfold k_quarantineChunk at hf
  refine go_aloadN (pc := 0) d39_0 rfl (go_getA (pc := 1) fa_26 hm_39 d39_1 rfl (go_iloadN (pc := 4) d39_4 rfl (go_iconst (pc := 5) d39_5 ci_2 ?_)))
  obtain ⟨a6, e1, hf⟩ := Option.bind_eq_some_iff.mp hf
  refine go_bastore (pc := 6) (q := 5) ar_5 (by decide) rfl hn_39 rfl e1 d39_6 ?_
  refine go_aloadN (pc := 7) d39_7 rfl (go_iloadN (pc := 8) d39_8 rfl ?_)
  obtain ⟨r9, e2, hf⟩ := Option.bind_eq_some_iff.mp hf
  refine go_priv (pc := 9) (i := 0) (as := [.int v1]) (rest := []) (w' := (none, [(9, r9)])) lk_0_170 pd_37 rfl oid_0 rfl rfl rfl rfl rfl rfl ⟨rfl, rfl, rfl, rfl, rfl⟩ d39_9 (c_k_paintQuarantined v1 (sA s 5 a6) _ e2) ?_
  refine go_aloadN (pc := 12) d39_12 rfl (go_dupR (pc := 13) d39_13 (go_getI (pc := 14) fs_67 hm_39 d39_14 (go_iconst (pc := 17) d39_17 ci_1 (go_isub (pc := 18) d39_18 (go_putI (pc := 19) fs_67 hm_39 (wr_8 _) hn_39 d39_19 (go_aloadN (pc := 22) d39_22 rfl (go_iloadN (pc := 23) d39_23 rfl ?_)))))))
  obtain ⟨r24, e3, hf⟩ := Option.bind_eq_some_iff.mp hf
  refine go_priv (pc := 24) (i := 0) (as := [.int v1]) (rest := []) (w' := (none, [(9, r24)])) lk_0_173 pd_38 rfl oid_0 rfl rfl rfl rfl rfl rfl ⟨rfl, rfl, rfl, rfl, rfl⟩ d39_24 (c_k_enqueue v1 (sI r9 8 ((gI r9 8) - (1 : Int32))) _ e3) ?_
  cases hf
  exact go_ret (pc := 27) rfl d39_27
theorem c_k_quarantineChunk (v1 : Int32) (s : S) (o : S) (hf : k_quarantineChunk v1 s = some o) : Call PP m39 [.ref 1, .int v1] (none, [(9, s)]) (none, (none, [(9, o)])) := call_of_go pl_0 rfl (fun _ => rfl) (k_quarantineChunk_ok v1 s   _ hf)
set_option maxRecDepth 65536 in
set_option maxHeartbeats 4000000 in
theorem k_trimToBudget_2_ok  : ∀ (n : Nat) (v1 : Int32) (s : S)  (o : S), k_trimToBudget_2 n v1 s = some o → Go PP m40 2 [.val (.ref 1), .val (.int v1)] [] (none, [(9, s)]) (none, (none, [(9, o)])) := by
  intro n
  induction n with
  | zero => intro v1 s o hf; exact nomatch hf
  | succ n ih =>
    intro v1 s o hf
    unfold k_trimToBudget_2 at hf
    refine go_iloadN (pc := 2) d40_2 rfl (go_bipush (pc := 3) d40_3 cb_64 ?_)
    by_cases h1 : v1 < (64 : Int32)
    · replace hf := (if_pos h1).symm.trans hf
      refine go_icN (pc := 5) d40_5 (XT.ii_ge_f h1) ?_
      refine go_aloadN (pc := 8) d40_8 rfl (go_getI (pc := 9) fs_133 hm_40 d40_9 (go_aloadN (pc := 12) d40_12 rfl (go_getI (pc := 13) fs_49 hm_40 d40_13 ?_)))
      by_cases h2 : (gI s 2) < (gI s 6)
      · replace hf := (if_pos h2).symm.trans hf
        refine go_icN (pc := 16) d40_16 (XT.ii_le_f h2) ?_
        refine go_aloadN (pc := 19) d40_19 rfl (go_getI (pc := 20) fs_130 hm_40 d40_20 ?_)
        by_cases h3 : 0 < (gI s 5)
        · replace hf := (if_pos h3).symm.trans hf
          refine go_ifN (pc := 23) d40_23 (XT.i0_le_f h3) ?_
          refine go_aloadN (pc := 26) d40_26 rfl ?_
          obtain ⟨r27, e4, hf⟩ := Option.bind_eq_some_iff.mp hf
          refine go_priv (pc := 27) (i := 0) (as := []) (rest := []) (w' := (none, [(9, r27)])) lk_0_179 pd_19 rfl oid_0 rfl rfl rfl rfl rfl rfl ⟨rfl, rfl, rfl, rfl, rfl⟩ d40_27 (c_k_evictOldest s _ e4) ?_
          refine go_iinc (pc := 30) (L' := [.val (.ref 1), .val (.int (v1 + (1 : Int32)))]) d40_30 rfl ci_1 rfl (go_goto (pc := 33) (pc' := 2) d40_33 j_33_m31 ?_)
          exact ih (v1 + (1 : Int32)) r27 _ hf
        · replace hf := (if_neg h3).symm.trans hf
          refine go_ifY (pc := 23) (pc' := 36) d40_23 (XT.i0_le_t h3) j_23_13 ?_
          cases hf
          exact go_ret (pc := 36) rfl d40_36
      · replace hf := (if_neg h2).symm.trans hf
        refine go_icY (pc := 16) (pc' := 36) d40_16 (XT.ii_le_t h2) j_16_20 ?_
        cases hf
        exact go_ret (pc := 36) rfl d40_36
    · replace hf := (if_neg h1).symm.trans hf
      refine go_icY (pc := 5) (pc' := 36) d40_5 (XT.ii_ge_t h1) j_5_31 ?_
      cases hf
      exact go_ret (pc := 36) rfl d40_36
set_option maxRecDepth 65536 in
set_option maxHeartbeats 4000000 in
theorem k_trimToBudget_ok  : ∀  (s : S)  (o : S), k_trimToBudget s = some o → Go PP m40 0 [.val (.ref 1), .unset] [] (none, [(9, s)]) (none, (none, [(9, o)])) := by
  intro s o hf
  unfold k_trimToBudget at hf
  refine go_iconst (pc := 0) d40_0 ci_0 (go_istoreN (pc := 1) (L' := [.val (.ref 1), .val (.int (0 : Int32))]) d40_1 rfl ?_)
  exact k_trimToBudget_2_ok BIG (0 : Int32) s _ hf
theorem c_k_trimToBudget (s : S) (o : S) (hf : k_trimToBudget s = some o) : Call PP m40 [.ref 1] (none, [(9, s)]) (none, (none, [(9, o)])) := call_of_go pl_0 rfl (fun _ => rfl) (k_trimToBudget_ok s   _ hf)
set_option maxRecDepth 65536 in
set_option maxHeartbeats 4000000 in
theorem k_free_ok  : ∀ (v1 : Int32) (s : S)  (o : Int32 × S), k_free v1 s = some o → Go PP m41 0 [.val (.ref 1), .val (.int v1), .unset] [] (none, [(9, s)]) (some (.int o.1), (none, [(9, o.2)])) := by
  intro v1 s o hf
  unfold k_free at hf
  refine go_aloadN (pc := 0) d41_0 rfl (go_iloadN (pc := 1) d41_1 rfl ?_)
  obtain ⟨r2, e1, hf⟩ := Option.bind_eq_some_iff.mp hf
  refine go_priv (pc := 2) (i := 0) (as := [.int v1]) (rest := []) (w' := (none, [(9, s)])) lk_0_98 pd_33 rfl oid_0 rfl rfl rfl rfl rfl rfl ⟨rfl, rfl, rfl, rfl, rfl⟩ d41_2 (c_k_slotForUserAddress v1 s _ e1) ?_
  refine go_istoreN (pc := 5) (L' := [.val (.ref 1), .val (.int v1), .val (.int r2)]) d41_5 rfl (go_iloadN (pc := 6) d41_6 rfl ?_)
  by_cases h2 : r2 < 0
  · replace hf := (if_pos h2).symm.trans hf
    refine go_ifN (pc := 7) d41_7 (XT.i0_ge_f h2) ?_
    refine go_iconst (pc := 10) d41_10 ci_2 ?_
    cases hf
    exact go_iret (pc := 11) rfl d41_11
  · replace hf := (if_neg h2).symm.trans hf
    refine go_ifY (pc := 7) (pc' := 12) d41_7 (XT.i0_ge_t h2) j_7_5 ?_
    refine go_aloadN (pc := 12) d41_12 rfl (go_iloadN (pc := 13) d41_13 rfl ?_)
    obtain ⟨r14, e3, hf⟩ := Option.bind_eq_some_iff.mp hf
    refine go_priv (pc := 14) (i := 0) (as := [.int r2]) (rest := []) (w' := (none, [(9, s)])) lk_0_101 pd_11 rfl oid_0 rfl rfl rfl rfl rfl rfl ⟨rfl, rfl, rfl, rfl, rfl⟩ d41_14 (c_k_isQuarantined r2 s _ e3) ?_
    by_cases h4 : r14 = 0
    · replace hf := (if_pos h4).symm.trans hf
      refine go_ifY (pc := 17) (pc' := 22) d41_17 (XT.i0_eq_t h4) j_17_5 ?_
      refine go_aloadN (pc := 22) d41_22 rfl (go_iloadN (pc := 23) d41_23 rfl ?_)
      obtain ⟨r24, e5, hf⟩ := Option.bind_eq_some_iff.mp hf
      refine go_priv (pc := 24) (i := 0) (as := [.int r2]) (rest := []) (w' := (none, [(9, s)])) lk_0_105 pd_34 rfl oid_0 rfl rfl rfl rfl rfl rfl ⟨rfl, rfl, rfl, rfl, rfl⟩ d41_24 (c_k_isLive r2 s _ e5) ?_
      by_cases h6 : r24 = 0
      · replace hf := (if_pos h6).symm.trans hf
        refine go_ifN (pc := 27) d41_27 (XT.i0_ne_f h6) ?_
        refine go_iconst (pc := 30) d41_30 ci_2 ?_
        cases hf
        exact go_iret (pc := 31) rfl d41_31
      · replace hf := (if_neg h6).symm.trans hf
        refine go_ifY (pc := 27) (pc' := 32) d41_27 (XT.i0_ne_t h6) j_27_5 ?_
        refine go_aloadN (pc := 32) d41_32 rfl (go_iloadN (pc := 33) d41_33 rfl ?_)
        obtain ⟨r34, e7, hf⟩ := Option.bind_eq_some_iff.mp hf
        refine go_priv (pc := 34) (i := 0) (as := [.int r2]) (rest := []) (w' := (none, [(9, r34)])) lk_0_108 pd_39 rfl oid_0 rfl rfl rfl rfl rfl rfl ⟨rfl, rfl, rfl, rfl, rfl⟩ d41_34 (c_k_quarantineChunk r2 s _ e7) ?_
        refine go_aloadN (pc := 37) d41_37 rfl ?_
        obtain ⟨r38, e8, hf⟩ := Option.bind_eq_some_iff.mp hf
        refine go_priv (pc := 38) (i := 0) (as := []) (rest := []) (w' := (none, [(9, r38)])) lk_0_112 pd_40 rfl oid_0 rfl rfl rfl rfl rfl rfl ⟨rfl, rfl, rfl, rfl, rfl⟩ d41_38 (c_k_trimToBudget r34 _ e8) ?_
        refine go_iconst (pc := 41) d41_41 ci_0 ?_
        cases hf
        exact go_iret (pc := 42) rfl d41_42
    · replace hf := (if_neg h4).symm.trans hf
      refine go_ifN (pc := 17) d41_17 (XT.i0_eq_f h4) ?_
      refine go_iconst (pc := 20) d41_20 ci_1 ?_
      cases hf
      exact go_iret (pc := 21) rfl d41_21
theorem c_k_free (v1 : Int32) (s : S) (o : Int32 × S) (hf : k_free v1 s = some o) : Call PP m41 [.ref 1, .int v1] (none, [(9, s)]) (some (.int o.1), (none, [(9, o.2)])) := call_of_go pl_0 rfl (fun h => nomatch h) (k_free_ok v1 s   _ hf)
set_option maxRecDepth 65536 in
set_option maxHeartbeats 4000000 in
theorem k_quarantineAt_ok  : ∀ (v1 : Int32) (s : S)  (o : Int32), k_quarantineAt v1 s = some o → Go PP m42 0 [.val (.ref 1), .val (.int v1), .unset] [] (none, [(9, s)]) (some (.int o), (none, [(9, s)])) := by
  intro v1 s o hf
  unfold k_quarantineAt at hf
  refine go_iloadN (pc := 0) d42_0 rfl ?_
  by_cases h1 : v1 < 0
  · replace hf := (if_pos h1).symm.trans hf
    refine go_ifY (pc := 1) (pc' := 12) d42_1 (XT.i0_lt_t h1) j_1_11 ?_
    refine go_iconst (pc := 12) d42_12 ci_m1 ?_
    cases hf
    exact go_iret (pc := 13) rfl d42_13
  · replace hf := (if_neg h1).symm.trans hf
    refine go_ifN (pc := 1) d42_1 (XT.i0_lt_f h1) ?_
    refine go_iloadN (pc := 4) d42_4 rfl (go_aloadN (pc := 5) d42_5 rfl (go_getI (pc := 6) fs_130 hm_42 d42_6 ?_))
    by_cases h2 : v1 < (gI s 5)
    · replace hf := (if_pos h2).symm.trans hf
      refine go_icY (pc := 9) (pc' := 14) d42_9 (XT.ii_lt_t h2) j_9_5 ?_
      refine go_aloadN (pc := 14) d42_14 rfl (go_getA (pc := 15) fa_29 hm_42 d42_15 rfl (go_aloadN (pc := 18) d42_18 rfl (go_getI (pc := 19) fs_136 hm_42 d42_19 (go_iloadN (pc := 22) d42_22 rfl (go_iadd (pc := 23) d42_23 (go_bipush (pc := 24) d42_24 cb_31 (go_iand (pc := 26) d42_26 ?_)))))))
      obtain ⟨a27, e3, hf⟩ := Option.bind_eq_some_iff.mp hf
      refine go_iaload (pc := 27) (q := 6) ar_6 rfl e3 d42_27 ?_
      refine go_istoreN (pc := 28) (L' := [.val (.ref 1), .val (.int v1), .val (.int a27)]) d42_28 rfl (go_aloadN (pc := 29) d42_29 rfl (go_iloadN (pc := 30) d42_30 rfl ?_))
      refine go_priv (pc := 31) (i := 0) (as := [.int a27]) (rest := []) (w' := (none, [(9, s)])) lk_0_139 pd_9 rfl oid_0 rfl rfl rfl rfl rfl rfl ⟨rfl, rfl, rfl, rfl, rfl⟩ d42_31 (c_k_validSlot a27 s) ?_
      by_cases h4 : (k_validSlot a27) = 0
      · replace hf := (if_pos h4).symm.trans hf
        refine go_ifN (pc := 34) d42_34 (XT.i0_ne_f h4) ?_
        refine go_iconst (pc := 37) d42_37 ci_m1 ?_
        cases hf
        exact go_iret (pc := 38) rfl d42_38
      · replace hf := (if_neg h4).symm.trans hf
        refine go_ifY (pc := 34) (pc' := 39) d42_34 (XT.i0_ne_t h4) j_34_5 ?_
        refine go_aloadN (pc := 39) d42_39 rfl (go_iloadN (pc := 40) d42_40 rfl ?_)
        obtain ⟨r41, e5, hf⟩ := Option.bind_eq_some_iff.mp hf
        refine go_priv (pc := 41) (i := 0) (as := [.int a27]) (rest := []) (w' := (none, [(9, s)])) lk_0_142 pd_26 rfl oid_0 rfl rfl rfl rfl rfl rfl ⟨rfl, rfl, rfl, rfl, rfl⟩ d42_41 (c_k_userAddressOf a27 s _ e5) ?_
        cases hf
        exact go_iret (pc := 44) rfl d42_44
    · replace hf := (if_neg h2).symm.trans hf
      refine go_icN (pc := 9) d42_9 (XT.ii_lt_f h2) ?_
      refine go_iconst (pc := 12) d42_12 ci_m1 ?_
      cases hf
      exact go_iret (pc := 13) rfl d42_13
theorem c_k_quarantineAt (v1 : Int32) (s : S) (o : Int32) (hf : k_quarantineAt v1 s = some o) : Call PP m42 [.ref 1, .int v1] (none, [(9, s)]) (some (.int o), (none, [(9, s)])) := call_of_go pl_0 rfl (fun h => nomatch h) (k_quarantineAt_ok v1 s   _ hf)
set_option maxRecDepth 65536 in
set_option maxHeartbeats 4000000 in
theorem k_isAccessSize_ok  {s : S} : ∀ (v1 : Int32)   (o : Int32), k_isAccessSize v1 = o → Go PP m45 0 [.val (.ref 1), .val (.int v1)] [] (none, [(9, s)]) (some (.int o), (none, [(9, s)])) := by
  intro v1 o hf
  unfold k_isAccessSize at hf
  refine go_iloadN (pc := 0) d45_0 rfl (go_iconst (pc := 1) d45_1 ci_1 ?_)
  by_cases h1 : v1 = (1 : Int32)
  · replace hf := (if_pos h1).symm.trans hf
    refine go_icY (pc := 2) (pc' := 21) d45_2 (XT.ii_eq_t h1) j_2_19 ?_
    refine go_iconst (pc := 21) d45_21 ci_1 (go_goto (pc := 22) (pc' := 26) d45_22 j_22_4 ?_)
    cases hf
    exact go_zret (pc := 26) rfl d45_26 (show (1 : Int32) = nar .boolean (1 : Int32) by decide)
  · replace hf := (if_neg h1).symm.trans hf
    refine go_icN (pc := 2) d45_2 (XT.ii_eq_f h1) ?_
    refine go_iloadN (pc := 5) d45_5 rfl (go_iconst (pc := 6) d45_6 ci_2 ?_)
    by_cases h2 : v1 = (2 : Int32)
    · replace hf := (if_pos h2).symm.trans hf
      refine go_icY (pc := 7) (pc' := 21) d45_7 (XT.ii_eq_t h2) j_7_14 ?_
      refine go_iconst (pc := 21) d45_21 ci_1 (go_goto (pc := 22) (pc' := 26) d45_22 j_22_4 ?_)
      cases hf
      exact go_zret (pc := 26) rfl d45_26 (show (1 : Int32) = nar .boolean (1 : Int32) by decide)
    · replace hf := (if_neg h2).symm.trans hf
      refine go_icN (pc := 7) d45_7 (XT.ii_eq_f h2) ?_
      refine go_iloadN (pc := 10) d45_10 rfl (go_iconst (pc := 11) d45_11 ci_4 ?_)
      by_cases h3 : v1 = (4 : Int32)
      · replace hf := (if_pos h3).symm.trans hf
        refine go_icY (pc := 12) (pc' := 21) d45_12 (XT.ii_eq_t h3) j_12_9 ?_
        refine go_iconst (pc := 21) d45_21 ci_1 (go_goto (pc := 22) (pc' := 26) d45_22 j_22_4 ?_)
        cases hf
        exact go_zret (pc := 26) rfl d45_26 (show (1 : Int32) = nar .boolean (1 : Int32) by decide)
      · replace hf := (if_neg h3).symm.trans hf
        refine go_icN (pc := 12) d45_12 (XT.ii_eq_f h3) ?_
        refine go_iloadN (pc := 15) d45_15 rfl (go_bipush (pc := 16) d45_16 cb_8 ?_)
        by_cases h4 : v1 = (8 : Int32)
        · replace hf := (if_pos h4).symm.trans hf
          refine go_icN (pc := 18) d45_18 (XT.ii_ne_f h4) ?_
          refine go_iconst (pc := 21) d45_21 ci_1 (go_goto (pc := 22) (pc' := 26) d45_22 j_22_4 ?_)
          cases hf
          exact go_zret (pc := 26) rfl d45_26 (show (1 : Int32) = nar .boolean (1 : Int32) by decide)
        · replace hf := (if_neg h4).symm.trans hf
          refine go_icY (pc := 18) (pc' := 25) d45_18 (XT.ii_ne_t h4) j_18_7 ?_
          refine go_iconst (pc := 25) d45_25 ci_0 ?_
          cases hf
          exact go_zret (pc := 26) rfl d45_26 (show (0 : Int32) = nar .boolean (0 : Int32) by decide)
theorem c_k_isAccessSize (v1 : Int32) (s : S) : Call PP m45 [.ref 1, .int v1] (none, [(9, s)]) (some (.int (k_isAccessSize v1)), (none, [(9, s)])) := call_of_go pl_0 rfl (fun h => nomatch h) (k_isAccessSize_ok v1   _ rfl)
set_option maxRecDepth 65536 in
set_option maxHeartbeats 4000000 in
theorem k_kindForShadow_28_ok  {s : S} : ∀ (v1 : Int32)  (x2 : Slot) (hx2 : k1 x2) (o : Int32), k_kindForShadow_28 v1 = o → Go PP m46 28 [.val (.ref 1), .val (.int v1), x2] [] (none, [(9, s)]) (some (.int o), (none, [(9, s)])) := by
  intro v1 x2 hx2 o hf
  unfold k_kindForShadow_28 at hf
  refine go_iloadN (pc := 28) d46_28 rfl (go_sipush (pc := 29) d46_29 cs_250 ?_)
  by_cases h1 : v1 = (250 : Int32)
  · replace hf := (if_pos h1).symm.trans hf
    refine go_icN (pc := 32) d46_32 (XT.ii_ne_f h1) ?_
    refine go_iconst (pc := 35) d46_35 ci_1 ?_
    cases hf
    exact go_iret (pc := 36) rfl d46_36
  · replace hf := (if_neg h1).symm.trans hf
    refine go_icY (pc := 32) (pc' := 37) d46_32 (XT.ii_ne_t h1) j_32_5 ?_
    refine go_iloadN (pc := 37) d46_37 rfl (go_sipush (pc := 38) d46_38 cs_251 ?_)
    by_cases h2 : v1 = (251 : Int32)
    · replace hf := (if_pos h2).symm.trans hf
      refine go_icN (pc := 41) d46_41 (XT.ii_ne_f h2) ?_
      refine go_iconst (pc := 44) d46_44 ci_2 ?_
      cases hf
      exact go_iret (pc := 45) rfl d46_45
    · replace hf := (if_neg h2).symm.trans hf
      refine go_icY (pc := 41) (pc' := 46) d46_41 (XT.ii_ne_t h2) j_41_5 ?_
      refine go_iloadN (pc := 46) d46_46 rfl (go_sipush (pc := 47) d46_47 cs_253 ?_)
      by_cases h3 : v1 = (253 : Int32)
      · replace hf := (if_pos h3).symm.trans hf
        refine go_icN (pc := 50) d46_50 (XT.ii_ne_f h3) ?_
        refine go_iconst (pc := 53) d46_53 ci_3 ?_
        cases hf
        exact go_iret (pc := 54) rfl d46_54
      · replace hf := (if_neg h3).symm.trans hf
        refine go_icY (pc := 50) (pc' := 55) d46_50 (XT.ii_ne_t h3) j_50_5 ?_
        refine go_iconst (pc := 55) d46_55 ci_4 ?_
        cases hf
        exact go_iret (pc := 56) rfl d46_56
set_option maxRecDepth 65536 in
set_option maxHeartbeats 4000000 in
theorem k_kindForShadow_ok  {s : S} : ∀ (v1 : Int32) (v2 : Int32)   (o : Int32), k_kindForShadow v1 v2 = o → Go PP m46 0 [.val (.ref 1), .val (.int v1), .val (.int v2)] [] (none, [(9, s)]) (some (.int o), (none, [(9, s)])) := by
  intro v1 v2 o hf
  unfold k_kindForShadow at hf
  refine go_iloadN (pc := 0) d46_0 rfl ?_
  by_cases h1 : v1 = 0
  · replace hf := (if_pos h1).symm.trans hf
    refine go_ifN (pc := 1) d46_1 (XT.i0_ne_f h1) ?_
    refine go_iconst (pc := 4) d46_4 ci_0 ?_
    cases hf
    exact go_iret (pc := 5) rfl d46_5
  · replace hf := (if_neg h1).symm.trans hf
    refine go_ifY (pc := 1) (pc' := 6) d46_1 (XT.i0_ne_t h1) j_1_5 ?_
    refine go_iloadN (pc := 6) d46_6 rfl (go_iconst (pc := 7) d46_7 ci_1 ?_)
    by_cases h2 : v1 < (1 : Int32)
    · replace hf := (if_pos h2).symm.trans hf
      refine go_icY (pc := 8) (pc' := 28) d46_8 (XT.ii_lt_t h2) j_8_20 ?_
      exact k_kindForShadow_28_ok v1 (.val (.int v2)) (Or.inr ⟨_, rfl, rfl⟩) _ hf
    · replace hf := (if_neg h2).symm.trans hf
      refine go_icN (pc := 8) d46_8 (XT.ii_lt_f h2) ?_
      refine go_iloadN (pc := 11) d46_11 rfl (go_bipush (pc := 12) d46_12 cb_7 ?_)
      by_cases h3 : (7 : Int32) < v1
      · replace hf := (if_pos h3).symm.trans hf
        refine go_icY (pc := 14) (pc' := 28) d46_14 (XT.ii_gt_t h3) j_14_14 ?_
        exact k_kindForShadow_28_ok v1 (.val (.int v2)) (Or.inr ⟨_, rfl, rfl⟩) _ hf
      · replace hf := (if_neg h3).symm.trans hf
        refine go_icN (pc := 14) d46_14 (XT.ii_gt_f h3) ?_
        refine go_iloadN (pc := 17) d46_17 rfl (go_iloadN (pc := 18) d46_18 rfl ?_)
        by_cases h4 : v2 < v1
        · replace hf := (if_pos h4).symm.trans hf
          refine go_icN (pc := 19) d46_19 (XT.ii_ge_f h4) ?_
          refine go_iconst (pc := 22) d46_22 ci_0 (go_goto (pc := 23) (pc' := 27) d46_23 j_23_4 ?_)
          cases hf
          exact go_iret (pc := 27) rfl d46_27
        · replace hf := (if_neg h4).symm.trans hf
          refine go_icY (pc := 19) (pc' := 26) d46_19 (XT.ii_ge_t h4) j_19_7 ?_
          refine go_iconst (pc := 26) d46_26 ci_2 ?_
          cases hf
          exact go_iret (pc := 27) rfl d46_27
theorem c_k_kindForShadow (v1 : Int32) (v2 : Int32) (s : S) : Call PP m46 [.ref 1, .int v1, .int v2] (none, [(9, s)]) (some (.int (k_kindForShadow v1 v2)), (none, [(9, s)])) := call_of_go pl_0 rfl (fun h => nomatch h) (k_kindForShadow_ok v1 v2   _ rfl)
set_option maxRecDepth 65536 in
set_option maxHeartbeats 4000000 in
theorem k_byteKind_ok  : ∀ (v1 : Int32) (s : S)  (o : Int32), k_byteKind v1 s = some o → Go PP m47 0 [.val (.ref 1), .val (.int v1), .unset, .unset, .unset] [] (none, [(9, s)]) (some (.int o), (none, [(9, s)])) := by
  intro v1 s o hf
  unfold k_byteKind at hf
  refine go_iloadN (pc := 0) d47_0 rfl ?_
  by_cases h1 : v1 < 0
  · replace hf := (if_pos h1).symm.trans hf
    refine go_ifY (pc := 1) (pc' := 12) d47_1 (XT.i0_lt_t h1) j_1_11 ?_
    refine go_iconst (pc := 12) d47_12 ci_5 ?_
    cases hf
    exact go_iret (pc := 13) rfl d47_13
  · replace hf := (if_neg h1).symm.trans hf
    refine go_ifN (pc := 1) d47_1 (XT.i0_lt_f h1) ?_
    refine go_iloadN (pc := 4) d47_4 rfl (go_aloadN (pc := 5) d47_5 rfl (go_getI (pc := 6) fs_52 hm_47 d47_6 ?_))
    by_cases h2 : v1 < (gI s 3)
    · replace hf := (if_pos h2).symm.trans hf
      refine go_icY (pc := 9) (pc' := 14) d47_9 (XT.ii_lt_t h2) j_9_5 ?_
      refine go_iloadN (pc := 14) d47_14 rfl (go_iconst (pc := 15) d47_15 ci_3 (go_ishr (pc := 16) d47_16 (go_istoreN (pc := 17) (L' := [.val (.ref 1), .val (.int v1), .val (.int (v1 >>> ((3 : Int32) &&& 31))), .unset, .unset]) d47_17 rfl (go_iloadN (pc := 18) d47_18 rfl (go_bipush (pc := 19) d47_19 cb_7 (go_iand (pc := 21) d47_21 (go_istoreN (pc := 22) (L' := [.val (.ref 1), .val (.int v1), .val (.int (v1 >>> ((3 : Int32) &&& 31))), .val (.int (v1 &&& (7 : Int32))), .unset]) d47_22 rfl ?_)))))))
      refine go_aloadN (pc := 23) d47_23 rfl (go_getA (pc := 24) fa_13 hm_47 d47_24 rfl (go_iloadN (pc := 27) d47_27 rfl ?_))
      obtain ⟨a28, e3, hf⟩ := Option.bind_eq_some_iff.mp hf
      refine go_iaload (pc := 28) (q := 1) ar_1 rfl e3 d47_28 ?_
      refine go_istore (pc := 29) (L' := [.val (.ref 1), .val (.int v1), .val (.int (v1 >>> ((3 : Int32) &&& 31))), .val (.int (v1 &&& (7 : Int32))), .val (.int a28)]) d47_29 rfl (go_aloadN (pc := 31) d47_31 rfl (go_iload (pc := 32) d47_32 rfl (go_iloadN (pc := 34) d47_34 rfl ?_)))
      refine go_priv (pc := 35) (i := 0) (as := [.int a28, .int (v1 &&& (7 : Int32))]) (rest := []) (w' := (none, [(9, s)])) lk_0_206 pd_46 rfl oid_0 rfl rfl rfl rfl rfl rfl ⟨rfl, rfl, rfl, rfl, rfl⟩ d47_35 (c_k_kindForShadow a28 (v1 &&& (7 : Int32)) s) ?_
      cases hf
      exact go_iret (pc := 38) rfl d47_38
    · replace hf := (if_neg h2).symm.trans hf
      refine go_icN (pc := 9) d47_9 (XT.ii_lt_f h2) ?_
      refine go_iconst (pc := 12) d47_12 ci_5 ?_
      cases hf
      exact go_iret (pc := 13) rfl d47_13
theorem c_k_byteKind (v1 : Int32) (s : S) (o : Int32) (hf : k_byteKind v1 s = some o) : Call PP m47 [.ref 1, .int v1] (none, [(9, s)]) (some (.int o), (none, [(9, s)])) := call_of_go pl_0 rfl (fun h => nomatch h) (k_byteKind_ok v1 s   _ hf)
set_option maxRecDepth 65536 in
set_option maxHeartbeats 4000000 in
theorem k_recordError_ok  : ∀ (v1 : Int32) (s : S)  (o : S), k_recordError v1 s = o → Go PP m48 0 [.val (.ref 1), .val (.int v1)] [] (none, [(9, s)]) (none, (none, [(9, o)])) := by
  intro v1 s o hf
  unfold k_recordError at hf
  refine go_aloadN (pc := 0) d48_0 rfl (go_dupR (pc := 1) d48_1 (go_getI (pc := 2) fs_77 hm_48 d48_2 (go_iconst (pc := 5) d48_5 ci_1 (go_iadd (pc := 6) d48_6 (go_putI (pc := 7) fs_77 hm_48 (wr_11 _) hn_48 d48_7 (go_aloadN (pc := 10) d48_10 rfl (go_iloadN (pc := 11) d48_11 rfl ?_)))))))
  refine go_putI (pc := 12) fs_74 hm_48 (wr_10 _) hn_48 d48_12 ?_
  cases hf
  exact go_ret (pc := 15) rfl d48_15
theorem c_k_recordError (v1 : Int32) (s : S) : Call PP m48 [.ref 1, .int v1] (none, [(9, s)]) (none, (none, [(9, (k_recordError v1 s))])) := call_of_go pl_0 rfl (fun _ => rfl) (k_recordError_ok v1 s   _ rfl)
set_option maxRecDepth 65536 in
set_option maxHeartbeats 4000000 in
theorem k_checkAccess_31_ok  : ∀ (v4 : Int32) (v5 : Int32) (s : S) (x1 : Slot) (x2 : Slot) (x3 : Slot) (hx1 : k1 x1) (hx2 : k1 x2) (hx3 : k1 x3) (o : Int32 × S), k_checkAccess_31 v4 v5 s = some o → Go PP m49 31 [.val (.ref 1), x1, x2, x3, .val (.int v4), .val (.int v5)] [] (none, [(9, s)]) (some (.int o.1), (none, [(9, o.2)])) := by
  intro v4 v5 s x1 x2 x3 hx1 hx2 hx3 o hf
  unfold k_checkAccess_31 at hf
  refine go_aloadN (pc := 31) d49_31 rfl (go_iload (pc := 32) d49_32 rfl ?_)
  refine go_priv (pc := 34) (i := 0) (as := [.int v4]) (rest := []) (w' := (none, [(9, (k_recordError v4 s))])) lk_0_203 pd_48 rfl oid_0 rfl rfl rfl rfl rfl rfl ⟨rfl, rfl, rfl, rfl, rfl⟩ d49_34 (c_k_recordError v4 s) ?_
  refine go_iload (pc := 37) d49_37 rfl ?_
  cases hf
  exact go_iret (pc := 39) rfl d49_39
set_option maxRecDepth 65536 in
set_option maxHeartbeats 4000000 in
theorem k_checkAccess_2_ok  : ∀ (n : Nat) (v1 : Int32) (v2 : Int32) (v3 : Int32) (s : S) (x4 : Slot) (x5 : Slot) (hx4 : k1 x4) (hx5 : k1 x5) (o : Int32 × S), k_checkAccess_2 n v1 v2 v3 s = some o → Go PP m49 2 [.val (.ref 1), .val (.int v1), .val (.int v2), .val (.int v3), x4, x5] [] (none, [(9, s)]) (some (.int o.1), (none, [(9, o.2)])) := by
  intro n
  induction n with
  | zero => intro v1 v2 v3 s x4 x5 hx4 hx5 o hf; exact nomatch hf
  | succ n ih =>
    intro v1 v2 v3 s x4 x5 hx4 hx5 o hf
    unfold k_checkAccess_2 at hf
    refine go_iloadN (pc := 2) d49_2 rfl (go_iloadN (pc := 3) d49_3 rfl ?_)
    by_cases h1 : v3 < v2
    · replace hf := (if_pos h1).symm.trans hf
      refine go_icN (pc := 4) d49_4 (XT.ii_ge_f h1) ?_
      refine go_iloadN (pc := 7) d49_7 rfl (go_bipush (pc := 8) d49_8 cb_8 ?_)
      by_cases h2 : v3 < (8 : Int32)
      · replace hf := (if_pos h2).symm.trans hf
        refine go_icN (pc := 10) d49_10 (XT.ii_ge_f h2) ?_
        refine go_iloadN (pc := 13) d49_13 rfl (go_iloadN (pc := 14) d49_14 rfl (go_iadd (pc := 15) d49_15 (go_istore (pc := 16) (L' := [.val (.ref 1), .val (.int v1), .val (.int v2), .val (.int v3), .val (.int (v1 + v3)), x5]) d49_16 (stx rfl hx4 rfl) (go_aloadN (pc := 18) d49_18 rfl (go_iload (pc := 19) d49_19 rfl ?_)))))
        obtain ⟨r21, e3, hf⟩ := Option.bind_eq_some_iff.mp hf
        refine go_priv (pc := 21) (i := 0) (as := [.int (v1 + v3)]) (rest := []) (w' := (none, [(9, s)])) lk_0_200 pd_47 rfl oid_0 rfl rfl rfl rfl rfl rfl ⟨rfl, rfl, rfl, rfl, rfl⟩ d49_21 (c_k_byteKind (v1 + v3) s _ e3) ?_
        refine go_istore (pc := 24) (L' := [.val (.ref 1), .val (.int v1), .val (.int v2), .val (.int v3), .val (.int (v1 + v3)), .val (.int r21)]) d49_24 (stx rfl hx5 rfl) (go_iload (pc := 26) d49_26 rfl ?_)
        by_cases h4 : r21 = 0
        · replace hf := (if_pos h4).symm.trans hf
          refine go_ifY (pc := 28) (pc' := 40) d49_28 (XT.i0_eq_t h4) j_28_12 ?_
          refine go_iinc (pc := 40) (L' := [.val (.ref 1), .val (.int v1), .val (.int v2), .val (.int (v3 + (1 : Int32))), .val (.int (v1 + v3)), .val (.int r21)]) d49_40 rfl ci_1 rfl (go_goto (pc := 43) (pc' := 2) d49_43 j_43_m41 ?_)
          exact ih v1 v2 (v3 + (1 : Int32)) s (.val (.int (v1 + v3))) (.val (.int r21)) (Or.inr ⟨_, rfl, rfl⟩) (Or.inr ⟨_, rfl, rfl⟩) _ hf
        · replace hf := (if_neg h4).symm.trans hf
          refine go_ifN (pc := 28) d49_28 (XT.i0_eq_f h4) ?_
          exact k_checkAccess_31_ok (v1 + v3) r21 s (.val (.int v1)) (.val (.int v2)) (.val (.int v3)) (Or.inr ⟨_, rfl, rfl⟩) (Or.inr ⟨_, rfl, rfl⟩) (Or.inr ⟨_, rfl, rfl⟩) _ hf
      · replace hf := (if_neg h2).symm.trans hf
        refine go_icY (pc := 10) (pc' := 46) d49_10 (XT.ii_ge_t h2) j_10_36 ?_
        refine go_iconst (pc := 46) d49_46 ci_0 ?_
        cases hf
        exact go_iret (pc := 47) rfl d49_47
    · replace hf := (if_neg h1).symm.trans hf
      refine go_icY (pc := 4) (pc' := 46) d49_4 (XT.ii_ge_t h1) j_4_42 ?_
      refine go_iconst (pc := 46) d49_46 ci_0 ?_
      cases hf
      exact go_iret (pc := 47) rfl d49_47
set_option maxRecDepth 65536 in
set_option maxHeartbeats 4000000 in
theorem k_checkAccess_ok  : ∀ (v1 : Int32) (v2 : Int32) (s : S)  (o : Int32 × S), k_checkAccess v1 v2 s = some o → Go PP m49 0 [.val (.ref 1), .val (.int v1), .val (.int v2), .unset, .unset, .unset] [] (none, [(9, s)]) (some (.int o.1), (none, [(9, o.2)])) := by
  intro v1 v2 s o hf
  unfold k_checkAccess at hf
  refine go_iconst (pc := 0) d49_0 ci_0 (go_istoreN (pc := 1) (L' := [.val (.ref 1), .val (.int v1), .val (.int v2), .val (.int (0 : Int32)), .unset, .unset]) d49_1 rfl ?_)
  exact k_checkAccess_2_ok BIG v1 v2 (0 : Int32) s .unset .unset (Or.inl rfl) (Or.inl rfl) _ hf
theorem c_k_checkAccess (v1 : Int32) (v2 : Int32) (s : S) (o : Int32 × S) (hf : k_checkAccess v1 v2 s = some o) : Call PP m49 [.ref 1, .int v1, .int v2] (none, [(9, s)]) (some (.int o.1), (none, [(9, o.2)])) := call_of_go pl_0 rfl (fun h => nomatch h) (k_checkAccess_ok v1 v2 s   _ hf)
set_option maxRecDepth 65536 in
set_option maxHeartbeats 4000000 in
theorem k_readLittleEndian_5_ok  : ∀ (n : Nat) (v1 : Int32) (v2 : Int32) (v3 : Int64) (v5 : Int32) (s : S) (x6 : Slot) (x7 : Slot) (x8 : Slot) (hx6 : k1 x6) (hx7 : k2 x7 x8) (o : Int64), k_readLittleEndian_5 n v1 v2 v3 v5 s = some o → Go PP m50 5 [.val (.ref 1), .val (.int v1), .val (.int v2), .val (.long v3), .second, .val (.int v5), x6, x7, x8] [] (none, [(9, s)]) (some (.long o), (none, [(9, s)])) := by
  intro n
  induction n with
  | zero => intro v1 v2 v3 v5 s x6 x7 x8 hx6 hx7 o hf; exact nomatch hf
  | succ n ih =>
    intro v1 v2 v3 v5 s x6 x7 x8 hx6 hx7 o hf
    unfold k_readLittleEndian_5 at hf
    refine go_iload (pc := 5) d50_5 rfl (go_iloadN (pc := 7) d50_7 rfl ?_)
    by_cases h1 : v5 < v2
    · replace hf := (if_pos h1).symm.trans hf
      refine go_icN (pc := 8) d50_8 (XT.ii_ge_f h1) ?_
      refine go_iload (pc := 11) d50_11 rfl (go_bipush (pc := 13) d50_13 cb_8 ?_)
      by_cases h2 : v5 < (8 : Int32)
      · replace hf := (if_pos h2).symm.trans hf
        refine go_icN (pc := 15) d50_15 (XT.ii_ge_f h2) ?_
        refine go_iloadN (pc := 18) d50_18 rfl (go_iload (pc := 19) d50_19 rfl (go_iadd (pc := 21) d50_21 (go_istore (pc := 22) (L' := [.val (.ref 1), .val (.int v1), .val (.int v2), .val (.long v3), .second, .val (.int v5), .val (.int (v1 + v5)), x7, x8]) d50_22 (stx rfl hx6 rfl) (go_iload (pc := 24) d50_24 rfl ?_))))
        by_cases h3 : (v1 + v5) < 0
        · replace hf := (if_pos h3).symm.trans hf
          refine go_ifY (pc := 26) (pc' := 63) d50_26 (XT.i0_lt_t h3) j_26_37 ?_
          refine go_iinc (pc := 63) (L' := [.val (.ref 1), .val (.int v1), .val (.int v2), .val (.long v3), .second, .val (.int (v5 + (1 : Int32))), .val (.int (v1 + v5)), x7, x8]) d50_63 rfl ci_1 rfl (go_goto (pc := 66) (pc' := 5) d50_66 j_66_m61 ?_)
          exact ih v1 v2 v3 (v5 + (1 : Int32)) s (.val (.int (v1 + v5))) x7 x8 (Or.inr ⟨_, rfl, rfl⟩) hx7 _ hf
        · replace hf := (if_neg h3).symm.trans hf
          refine go_ifN (pc := 26) d50_26 (XT.i0_lt_f h3) ?_
          refine go_iload (pc := 29) d50_29 rfl (go_aloadN (pc := 31) d50_31 rfl (go_getI (pc := 32) fs_52 hm_50 d50_32 ?_))
          by_cases h4 : (v1 + v5) < (gI s 3)
          · replace hf := (if_pos h4).symm.trans hf
            refine go_icN (pc := 35) d50_35 (XT.ii_ge_f h4) ?_
            refine go_aloadN (pc := 38) d50_38 rfl (go_getA (pc := 39) fa_7 hm_50 d50_39 rfl (go_iload (pc := 42) d50_42 rfl ?_))
            obtain ⟨a44, e5, hf⟩ := Option.bind_eq_some_iff.mp hf
            refine go_baload (pc := 44) (q := 0) ar_0 (by decide) rfl e5 d50_44 ?_
            refine go_sipush (pc := 45) d50_45 cs_255 (go_iand (pc := 48) d50_48 (go_i2l (pc := 49) d50_49 (go_lstore (pc := 50) (L' := [.val (.ref 1), .val (.int v1), .val (.int v2), .val (.long v3), .second, .val (.int v5), .val (.int (v1 + v5)), .val (.long ((a44 &&& (255 : Int32)).toInt64)), .second]) d50_50 (stx2 rfl rfl hx7) (go_lloadN (pc := 52) d50_52 rfl (go_lload (pc := 53) d50_53 rfl (go_bipush (pc := 55) d50_55 cb_8 (go_iload (pc := 57) d50_57 rfl ?_)))))))
            refine go_imul (pc := 59) d50_59 (go_lshl (pc := 60) d50_60 (go_lor (pc := 61) d50_61 (go_lstoreN (pc := 62) (L' := [.val (.ref 1), .val (.int v1), .val (.int v2), .val (.long (v3 ||| (((a44 &&& (255 : Int32)).toInt64) <<< (((8 : Int32) * v5).toInt64 &&& 63)))), .second, .val (.int v5), .val (.int (v1 + v5)), .val (.long ((a44 &&& (255 : Int32)).toInt64)), .second]) d50_62 rfl (go_iinc (pc := 63) (L' := [.val (.ref 1), .val (.int v1), .val (.int v2), .val (.long (v3 ||| (((a44 &&& (255 : Int32)).toInt64) <<< (((8 : Int32) * v5).toInt64 &&& 63)))), .second, .val (.int (v5 + (1 : Int32))), .val (.int (v1 + v5)), .val (.long ((a44 &&& (255 : Int32)).toInt64)), .second]) d50_63 rfl ci_1 rfl (go_goto (pc := 66) (pc' := 5) d50_66 j_66_m61 ?_)))))
            exact ih v1 v2 (v3 ||| (((a44 &&& (255 : Int32)).toInt64) <<< (((8 : Int32) * v5).toInt64 &&& 63))) (v5 + (1 : Int32)) s (.val (.int (v1 + v5))) (.val (.long ((a44 &&& (255 : Int32)).toInt64))) .second (Or.inr ⟨_, rfl, rfl⟩) (Or.inr ⟨_, rfl, rfl⟩) _ hf
          · replace hf := (if_neg h4).symm.trans hf
            refine go_icY (pc := 35) (pc' := 63) d50_35 (XT.ii_ge_t h4) j_35_28 ?_
            refine go_iinc (pc := 63) (L' := [.val (.ref 1), .val (.int v1), .val (.int v2), .val (.long v3), .second, .val (.int (v5 + (1 : Int32))), .val (.int (v1 + v5)), x7, x8]) d50_63 rfl ci_1 rfl (go_goto (pc := 66) (pc' := 5) d50_66 j_66_m61 ?_)
            exact ih v1 v2 v3 (v5 + (1 : Int32)) s (.val (.int (v1 + v5))) x7 x8 (Or.inr ⟨_, rfl, rfl⟩) hx7 _ hf
      · replace hf := (if_neg h2).symm.trans hf
        refine go_icY (pc := 15) (pc' := 69) d50_15 (XT.ii_ge_t h2) j_15_54 ?_
        refine go_lloadN (pc := 69) d50_69 rfl ?_
        cases hf
        exact go_lret (pc := 70) rfl d50_70
    · replace hf := (if_neg h1).symm.trans hf
      refine go_icY (pc := 8) (pc' := 69) d50_8 (XT.ii_ge_t h1) j_8_61 ?_
      refine go_lloadN (pc := 69) d50_69 rfl ?_
      cases hf
      exact go_lret (pc := 70) rfl d50_70
set_option maxRecDepth 65536 in
set_option maxHeartbeats 4000000 in
theorem k_readLittleEndian_ok  : ∀ (v1 : Int32) (v2 : Int32) (s : S)  (o : Int64), k_readLittleEndian v1 v2 s = some o → Go PP m50 0 [.val (.ref 1), .val (.int v1), .val (.int v2), .unset, .unset, .unset, .unset, .unset, .unset] [] (none, [(9, s)]) (some (.long o), (none, [(9, s)])) := by
  intro v1 v2 s o hf
  unfold k_readLittleEndian at hf
  refine go_lconst (pc := 0) d50_0 cl_0 (go_lstoreN (pc := 1) (L' := [.val (.ref 1), .val (.int v1), .val (.int v2), .val (.long (0 : Int64)), .second, .unset, .unset, .unset, .unset]) d50_1 rfl (go_iconst (pc := 2) d50_2 ci_0 (go_istore (pc := 3) (L' := [.val (.ref 1), .val (.int v1), .val (.int v2), .val (.long (0 : Int64)), .second, .val (.int (0 : Int32)), .unset, .unset, .unset]) d50_3 rfl ?_)))
  exact k_readLittleEndian_5_ok BIG v1 v2 (0 : Int64) (0 : Int32) s .unset .unset .unset (Or.inl rfl) (Or.inl ⟨rfl, rfl⟩) _ hf
theorem c_k_readLittleEndian (v1 : Int32) (v2 : Int32) (s : S) (o : Int64) (hf : k_readLittleEndian v1 v2 s = some o) : Call PP m50 [.ref 1, .int v1, .int v2] (none, [(9, s)]) (some (.long o), (none, [(9, s)])) := call_of_go pl_0 rfl (fun h => nomatch h) (k_readLittleEndian_ok v1 v2 s   _ hf)
set_option maxRecDepth 65536 in
set_option maxHeartbeats 4000000 in
theorem k_load_ok  : ∀ (v1 : Int32) (v2 : Int32) (s : S)  (o : Int32 × S), k_load v1 v2 s = some o → Go PP m51 0 [.val (.ref 1), .val (.int v1), .val (.int v2), .unset] [] (none, [(9, s)]) (some (.int o.1), (none, [(9, o.2)])) := by
  intro v1 v2 s o hf
  unfold k_load at hf
  refine go_aloadN (pc := 0) d51_0 rfl (go_iloadN (pc := 1) d51_1 rfl ?_)
  refine go_priv (pc := 2) (i := 0) (as := [.int v2]) (rest := []) (w' := (none, [(9, s)])) lk_0_115 pd_45 rfl oid_0 rfl rfl rfl rfl rfl rfl ⟨rfl, rfl, rfl, rfl, rfl⟩ d51_2 (c_k_isAccessSize v2 s) ?_
  by_cases h1 : (k_isAccessSize v2) = 0
  · replace hf := (if_pos h1).symm.trans hf
    refine go_ifN (pc := 5) d51_5 (XT.i0_ne_f h1) ?_
    refine go_bipush (pc := 8) d51_8 cb_6 ?_
    cases hf
    exact go_iret (pc := 10) rfl d51_10
  · replace hf := (if_neg h1).symm.trans hf
    refine go_ifY (pc := 5) (pc' := 11) d51_5 (XT.i0_ne_t h1) j_5_6 ?_
    refine go_aloadN (pc := 11) d51_11 rfl (go_iloadN (pc := 12) d51_12 rfl (go_iloadN (pc := 13) d51_13 rfl ?_))
    obtain ⟨r14, e2, hf⟩ := Option.bind_eq_some_iff.mp hf
    refine go_priv (pc := 14) (i := 0) (as := [.int v1, .int v2]) (rest := []) (w' := (none, [(9, r14.2)])) lk_0_118 pd_49 rfl oid_0 rfl rfl rfl rfl rfl rfl ⟨rfl, rfl, rfl, rfl, rfl⟩ d51_14 (c_k_checkAccess v1 v2 s _ e2) ?_
    refine go_istoreN (pc := 17) (L' := [.val (.ref 1), .val (.int v1), .val (.int v2), .val (.int r14.1)]) d51_17 rfl (go_iloadN (pc := 18) d51_18 rfl ?_)
    by_cases h3 : r14.1 = 0
    · replace hf := (if_pos h3).symm.trans hf
      refine go_ifY (pc := 19) (pc' := 24) d51_19 (XT.i0_eq_t h3) j_19_5 ?_
      refine go_aloadN (pc := 24) d51_24 rfl (go_aloadN (pc := 25) d51_25 rfl (go_iloadN (pc := 26) d51_26 rfl (go_iloadN (pc := 27) d51_27 rfl ?_)))
      obtain ⟨r28, e4, hf⟩ := Option.bind_eq_some_iff.mp hf
      refine go_priv (pc := 28) (i := 0) (as := [.int v1, .int v2]) (rest := [.ref 1]) (w' := (none, [(9, r14.2)])) lk_0_122 pd_50 rfl oid_0 rfl rfl rfl rfl rfl rfl ⟨rfl, rfl, rfl, rfl, rfl⟩ d51_28 (c_k_readLittleEndian v1 v2 r14.2 _ e4) ?_
      refine go_putJ (pc := 31) fs_70 hm_51 (wr_9 _) hn_51 d51_31 (go_iconst (pc := 34) d51_34 ci_0 ?_)
      cases hf
      exact go_iret (pc := 35) rfl d51_35
    · replace hf := (if_neg h3).symm.trans hf
      refine go_ifN (pc := 19) d51_19 (XT.i0_eq_f h3) ?_
      refine go_iloadN (pc := 22) d51_22 rfl ?_
      cases hf
      exact go_iret (pc := 23) rfl d51_23
theorem c_k_load (v1 : Int32) (v2 : Int32) (s : S) (o : Int32 × S) (hf : k_load v1 v2 s = some o) : Call PP m51 [.ref 1, .int v1, .int v2] (none, [(9, s)]) (some (.int o.1), (none, [(9, o.2)])) := call_of_go pl_0 rfl (fun h => nomatch h) (k_load_ok v1 v2 s   _ hf)
set_option maxRecDepth 65536 in
set_option maxHeartbeats 4000000 in
theorem k_writeLittleEndian_3_ok  : ∀ (n : Nat) (v1 : Int32) (v2 : Int32) (v3 : Int64) (v5 : Int32) (s : S) (x6 : Slot) (hx6 : k1 x6) (o : S), k_writeLittleEndian_3 n v1 v2 v3 v5 s = some o → Go PP m52 3 [.val (.ref 1), .val (.int v1), .val (.int v2), .val (.long v3), .second, .val (.int v5), x6] [] (none, [(9, s)]) (none, (none, [(9, o)])) := by
  intro n
  induction n with
  | zero => intro v1 v2 v3 v5 s x6 hx6 o hf; exact nomatch hf
  | succ n ih =>
    intro v1 v2 v3 v5 s x6 hx6 o hf
    unfold k_writeLittleEndian_3 at hf
    refine go_iload (pc := 3) d52_3 rfl (go_iloadN (pc := 5) d52_5 rfl ?_)
    by_cases h1 : v5 < v2
    · replace hf := (if_pos h1).symm.trans hf
      refine go_icN (pc := 6) d52_6 (XT.ii_ge_f h1) ?_
      refine go_iload (pc := 9) d52_9 rfl (go_bipush (pc := 11) d52_11 cb_8 ?_)
      by_cases h2 : v5 < (8 : Int32)
      · replace hf := (if_pos h2).symm.trans hf
        refine go_icN (pc := 13) d52_13 (XT.ii_ge_f h2) ?_
        refine go_iloadN (pc := 16) d52_16 rfl (go_iload (pc := 17) d52_17 rfl (go_iadd (pc := 19) d52_19 (go_istore (pc := 20) (L' := [.val (.ref 1), .val (.int v1), .val (.int v2), .val (.long v3), .second, .val (.int v5), .val (.int (v1 + v5))]) d52_20 (stx rfl hx6 rfl) (go_iload (pc := 22) d52_22 rfl ?_))))
        by_cases h3 : (v1 + v5) < 0
        · replace hf := (if_pos h3).symm.trans hf
          refine go_ifY (pc := 24) (pc' := 56) d52_24 (XT.i0_lt_t h3) j_24_32 ?_
          refine go_iinc (pc := 56) (L' := [.val (.ref 1), .val (.int v1), .val (.int v2), .val (.long v3), .second, .val (.int (v5 + (1 : Int32))), .val (.int (v1 + v5))]) d52_56 rfl ci_1 rfl (go_goto (pc := 59) (pc' := 3) d52_59 j_59_m56 ?_)
          exact ih v1 v2 v3 (v5 + (1 : Int32)) s (.val (.int (v1 + v5))) (Or.inr ⟨_, rfl, rfl⟩) _ hf
        · replace hf := (if_neg h3).symm.trans hf
          refine go_ifN (pc := 24) d52_24 (XT.i0_lt_f h3) ?_
          refine go_iload (pc := 27) d52_27 rfl (go_aloadN (pc := 29) d52_29 rfl (go_getI (pc := 30) fs_52 hm_52 d52_30 ?_))
          by_cases h4 : (v1 + v5) < (gI s 3)
          · replace hf := (if_pos h4).symm.trans hf
            refine go_icN (pc := 33) d52_33 (XT.ii_ge_f h4) ?_
            refine go_aloadN (pc := 36) d52_36 rfl (go_getA (pc := 37) fa_7 hm_52 d52_37 rfl (go_iload (pc := 40) d52_40 rfl (go_lloadN (pc := 42) d52_42 rfl (go_bipush (pc := 43) d52_43 cb_8 (go_iload (pc := 45) d52_45 rfl (go_imul (pc := 47) d52_47 (go_lushr (pc := 48) d52_48 ?_)))))))
            refine go_ldc2 (pc := 49) (u := (255 : Int64)) d52_49 (List.mem_of_getElem? (i := 273) rfl) (go_land (pc := 52) d52_52 (go_l2i (pc := 53) d52_53 (go_i2b (pc := 54) d52_54 ?_)))
            obtain ⟨a55, e5, hf⟩ := Option.bind_eq_some_iff.mp hf
            refine go_bastore (pc := 55) (q := 0) ar_0 (by decide) rfl hn_52 rfl e5 d52_55 ?_
            refine go_iinc (pc := 56) (L' := [.val (.ref 1), .val (.int v1), .val (.int v2), .val (.long v3), .second, .val (.int (v5 + (1 : Int32))), .val (.int (v1 + v5))]) d52_56 rfl ci_1 rfl (go_goto (pc := 59) (pc' := 3) d52_59 j_59_m56 ?_)
            exact ih v1 v2 v3 (v5 + (1 : Int32)) (sA s 0 a55) (.val (.int (v1 + v5))) (Or.inr ⟨_, rfl, rfl⟩) _ hf
          · replace hf := (if_neg h4).symm.trans hf
            refine go_icY (pc := 33) (pc' := 56) d52_33 (XT.ii_ge_t h4) j_33_23 ?_
            refine go_iinc (pc := 56) (L' := [.val (.ref 1), .val (.int v1), .val (.int v2), .val (.long v3), .second, .val (.int (v5 + (1 : Int32))), .val (.int (v1 + v5))]) d52_56 rfl ci_1 rfl (go_goto (pc := 59) (pc' := 3) d52_59 j_59_m56 ?_)
            exact ih v1 v2 v3 (v5 + (1 : Int32)) s (.val (.int (v1 + v5))) (Or.inr ⟨_, rfl, rfl⟩) _ hf
      · replace hf := (if_neg h2).symm.trans hf
        refine go_icY (pc := 13) (pc' := 62) d52_13 (XT.ii_ge_t h2) j_13_49 ?_
        cases hf
        exact go_ret (pc := 62) rfl d52_62
    · replace hf := (if_neg h1).symm.trans hf
      refine go_icY (pc := 6) (pc' := 62) d52_6 (XT.ii_ge_t h1) j_6_56 ?_
      cases hf
      exact go_ret (pc := 62) rfl d52_62
set_option maxRecDepth 65536 in
set_option maxHeartbeats 4000000 in
theorem k_writeLittleEndian_ok  : ∀ (v1 : Int32) (v2 : Int32) (v3 : Int64) (s : S)  (o : S), k_writeLittleEndian v1 v2 v3 s = some o → Go PP m52 0 [.val (.ref 1), .val (.int v1), .val (.int v2), .val (.long v3), .second, .unset, .unset] [] (none, [(9, s)]) (none, (none, [(9, o)])) := by
  intro v1 v2 v3 s o hf
  unfold k_writeLittleEndian at hf
  refine go_iconst (pc := 0) d52_0 ci_0 (go_istore (pc := 1) (L' := [.val (.ref 1), .val (.int v1), .val (.int v2), .val (.long v3), .second, .val (.int (0 : Int32)), .unset]) d52_1 rfl ?_)
  exact k_writeLittleEndian_3_ok BIG v1 v2 v3 (0 : Int32) s .unset (Or.inl rfl) _ hf
theorem c_k_writeLittleEndian (v1 : Int32) (v2 : Int32) (v3 : Int64) (s : S) (o : S) (hf : k_writeLittleEndian v1 v2 v3 s = some o) : Call PP m52 [.ref 1, .int v1, .int v2, .long v3] (none, [(9, s)]) (none, (none, [(9, o)])) := call_of_go pl_0 rfl (fun _ => rfl) (k_writeLittleEndian_ok v1 v2 v3 s   _ hf)
set_option maxRecDepth 65536 in
set_option maxHeartbeats 4000000 in
theorem k_store_ok  : ∀ (v1 : Int32) (v2 : Int32) (v3 : Int64) (s : S)  (o : Int32 × S), k_store v1 v2 v3 s = some o → Go PP m53 0 [.val (.ref 1), .val (.int v1), .val (.int v2), .val (.long v3), .second, .unset] [] (none, [(9, s)]) (some (.int o.1), (none, [(9, o.2)])) := by
  intro v1 v2 v3 s o hf
  unfold k_store at hf
  refine go_aloadN (pc := 0) d53_0 rfl (go_iloadN (pc := 1) d53_1 rfl ?_)
  refine go_priv (pc := 2) (i := 0) (as := [.int v2]) (rest := []) (w' := (none, [(9, s)])) lk_0_115 pd_45 rfl oid_0 rfl rfl rfl rfl rfl rfl ⟨rfl, rfl, rfl, rfl, rfl⟩ d53_2 (c_k_isAccessSize v2 s) ?_
  by_cases h1 : (k_isAccessSize v2) = 0
  · replace hf := (if_pos h1).symm.trans hf
    refine go_ifN (pc := 5) d53_5 (XT.i0_ne_f h1) ?_
    refine go_bipush (pc := 8) d53_8 cb_6 ?_
    cases hf
    exact go_iret (pc := 10) rfl d53_10
  · replace hf := (if_neg h1).symm.trans hf
    refine go_ifY (pc := 5) (pc' := 11) d53_5 (XT.i0_ne_t h1) j_5_6 ?_
    refine go_aloadN (pc := 11) d53_11 rfl (go_iloadN (pc := 12) d53_12 rfl (go_iloadN (pc := 13) d53_13 rfl ?_))
    obtain ⟨r14, e2, hf⟩ := Option.bind_eq_some_iff.mp hf
    refine go_priv (pc := 14) (i := 0) (as := [.int v1, .int v2]) (rest := []) (w' := (none, [(9, r14.2)])) lk_0_118 pd_49 rfl oid_0 rfl rfl rfl rfl rfl rfl ⟨rfl, rfl, rfl, rfl, rfl⟩ d53_14 (c_k_checkAccess v1 v2 s _ e2) ?_
    refine go_istore (pc := 17) (L' := [.val (.ref 1), .val (.int v1), .val (.int v2), .val (.long v3), .second, .val (.int r14.1)]) d53_17 rfl (go_iload (pc := 19) d53_19 rfl ?_)
    by_cases h3 : r14.1 = 0
    · replace hf := (if_pos h3).symm.trans hf
      refine go_ifY (pc := 21) (pc' := 27) d53_21 (XT.i0_eq_t h3) j_21_6 ?_
      refine go_aloadN (pc := 27) d53_27 rfl (go_iloadN (pc := 28) d53_28 rfl (go_iloadN (pc := 29) d53_29 rfl (go_lloadN (pc := 30) d53_30 rfl ?_)))
      obtain ⟨r31, e4, hf⟩ := Option.bind_eq_some_iff.mp hf
      refine go_priv (pc := 31) (i := 0) (as := [.int v1, .int v2, .long v3]) (rest := []) (w' := (none, [(9, r31)])) lk_0_126 pd_52 rfl oid_0 rfl rfl rfl rfl rfl rfl ⟨rfl, rfl, rfl, rfl, rfl⟩ d53_31 (c_k_writeLittleEndian v1 v2 v3 r14.2 _ e4) ?_
      refine go_iconst (pc := 34) d53_34 ci_0 ?_
      cases hf
      exact go_iret (pc := 35) rfl d53_35
    · replace hf := (if_neg h3).symm.trans hf
      refine go_ifN (pc := 21) d53_21 (XT.i0_eq_f h3) ?_
      refine go_iload (pc := 24) d53_24 rfl ?_
      cases hf
      exact go_iret (pc := 26) rfl d53_26
theorem c_k_store (v1 : Int32) (v2 : Int32) (v3 : Int64) (s : S) (o : Int32 × S) (hf : k_store v1 v2 v3 s = some o) : Call PP m53 [.ref 1, .int v1, .int v2, .long v3] (none, [(9, s)]) (some (.int o.1), (none, [(9, o.2)])) := call_of_go pl_0 rfl (fun h => nomatch h) (k_store_ok v1 v2 v3 s   _ hf)
set_option maxRecDepth 65536 in
set_option maxHeartbeats 4000000 in
theorem k_lastValue_ok  : ∀  (s : S)  (o : Int64), k_lastValue s = o → Go PP m54 0 [.val (.ref 1)] [] (none, [(9, s)]) (some (.long o), (none, [(9, s)])) := by
  intro s o hf
  unfold k_lastValue at hf
  refine go_aloadN (pc := 0) d54_0 rfl (go_getJ (pc := 1) fs_70 hm_54 d54_1 ?_)
  cases hf
  exact go_lret (pc := 4) rfl d54_4
theorem c_k_lastValue (s : S) : Call PP m54 [.ref 1] (none, [(9, s)]) (some (.long (k_lastValue s)), (none, [(9, s)])) := call_of_go pl_0 rfl (fun h => nomatch h) (k_lastValue_ok s   _ rfl)
set_option maxRecDepth 65536 in
set_option maxHeartbeats 4000000 in
theorem k_lastBadAddress_ok  : ∀  (s : S)  (o : Int32), k_lastBadAddress s = o → Go PP m55 0 [.val (.ref 1)] [] (none, [(9, s)]) (some (.int o), (none, [(9, s)])) := by
  intro s o hf
  unfold k_lastBadAddress at hf
  refine go_aloadN (pc := 0) d55_0 rfl (go_getI (pc := 1) fs_74 hm_55 d55_1 ?_)
  cases hf
  exact go_iret (pc := 4) rfl d55_4
theorem c_k_lastBadAddress (s : S) : Call PP m55 [.ref 1] (none, [(9, s)]) (some (.int (k_lastBadAddress s)), (none, [(9, s)])) := call_of_go pl_0 rfl (fun h => nomatch h) (k_lastBadAddress_ok s   _ rfl)
set_option maxRecDepth 65536 in
set_option maxHeartbeats 4000000 in
theorem k_liveCount_ok  : ∀  (s : S)  (o : Int32), k_liveCount s = o → Go PP m56 0 [.val (.ref 1)] [] (none, [(9, s)]) (some (.int o), (none, [(9, s)])) := by
  intro s o hf
  unfold k_liveCount at hf
  refine go_aloadN (pc := 0) d56_0 rfl (go_getI (pc := 1) fs_67 hm_56 d56_1 ?_)
  cases hf
  exact go_iret (pc := 4) rfl d56_4
theorem c_k_liveCount (s : S) : Call PP m56 [.ref 1] (none, [(9, s)]) (some (.int (k_liveCount s)), (none, [(9, s)])) := call_of_go pl_0 rfl (fun h => nomatch h) (k_liveCount_ok s   _ rfl)
set_option maxRecDepth 65536 in
set_option maxHeartbeats 4000000 in
theorem k_errorCount_ok  : ∀  (s : S)  (o : Int32), k_errorCount s = o → Go PP m57 0 [.val (.ref 1)] [] (none, [(9, s)]) (some (.int o), (none, [(9, s)])) := by
  intro s o hf
  unfold k_errorCount at hf
  refine go_aloadN (pc := 0) d57_0 rfl (go_getI (pc := 1) fs_77 hm_57 d57_1 ?_)
  cases hf
  exact go_iret (pc := 4) rfl d57_4
theorem c_k_errorCount (s : S) : Call PP m57 [.ref 1] (none, [(9, s)]) (some (.int (k_errorCount s)), (none, [(9, s)])) := call_of_go pl_0 rfl (fun h => nomatch h) (k_errorCount_ok s   _ rfl)
set_option maxRecDepth 65536 in
set_option maxHeartbeats 4000000 in
theorem k_freeRunCount_ok  : ∀  (s : S)  (o : Int32), k_freeRunCount s = o → Go PP m58 0 [.val (.ref 1)] [] (none, [(9, s)]) (some (.int o), (none, [(9, s)])) := by
  intro s o hf
  unfold k_freeRunCount at hf
  refine go_aloadN (pc := 0) d58_0 rfl (go_getI (pc := 1) fs_145 hm_58 d58_1 ?_)
  cases hf
  exact go_iret (pc := 4) rfl d58_4
theorem c_k_freeRunCount (s : S) : Call PP m58 [.ref 1] (none, [(9, s)]) (some (.int (k_freeRunCount s)), (none, [(9, s)])) := call_of_go pl_0 rfl (fun h => nomatch h) (k_freeRunCount_ok s   _ rfl)
set_option maxRecDepth 65536 in
set_option maxHeartbeats 4000000 in
theorem h_sizeOf_ok_n1  {y0 : S} {q : List Int32} : ∀ (v0 : Int32)   (o : Int32), h_sizeOf v0 = o → Go PP m43 0 [.val (.int v0), .unset] [] (some q, [(9, y0)]) (some (.int o), (some q, [(9, y0)])) := by
  intro v0 o hf
  unfold h_sizeOf at hf
  refine go_iloadN (pc := 0) d43_0 rfl (go_bipush (pc := 1) d43_1 cb_7 (go_iand (pc := 3) d43_3 (go_istoreN (pc := 4) (L' := [.val (.int v0), .val (.int (v0 &&& (7 : Int32)))]) d43_4 rfl (go_iloadN (pc := 5) d43_5 rfl (go_iconst (pc := 6) d43_6 ci_4 ?_)))))
  by_cases h1 : (v0 &&& (7 : Int32)) = (4 : Int32)
  · replace hf := (if_pos h1).symm.trans hf
    refine go_icN (pc := 7) d43_7 (XT.ii_ne_f h1) ?_
    refine go_iconst (pc := 10) d43_10 ci_3 ?_
    cases hf
    exact go_iret (pc := 11) rfl d43_11
  · replace hf := (if_neg h1).symm.trans hf
    refine go_icY (pc := 7) (pc' := 12) d43_7 (XT.ii_ne_t h1) j_7_5 ?_
    refine go_iconst (pc := 12) d43_12 ci_1 (go_iloadN (pc := 13) d43_13 rfl (go_iconst (pc := 14) d43_14 ci_3 (go_iand (pc := 15) d43_15 (go_ishl (pc := 16) d43_16 ?_))))
    cases hf
    exact go_iret (pc := 17) rfl d43_17
theorem c_h_sizeOf_n1 (v0 : Int32) (q : List Int32) (y0 : S) : Call PP m43 [.int v0] (some q, [(9, y0)]) (some (.int (h_sizeOf v0)), (some q, [(9, y0)])) := call_of_go pl_1 rfl (fun h => nomatch h) (h_sizeOf_ok_n1 v0   _ rfl)
set_option maxRecDepth 65536 in
set_option maxHeartbeats 4000000 in
theorem h_addrOf_ok_n1  {y0 : S} {q : List Int32} : ∀ (v0 : Int32) (v1 : Int32)   (o : Int32), h_addrOf v0 v1 = some o → Go PP m44 0 [.val (.int v0), .val (.int v1)] [] (some q, [(9, y0)]) (some (.int o), (some q, [(9, y0)])) := by
  intro v0 v1 o hf
  unfold h_addrOf at hf
  refine go_iloadN (pc := 0) d44_0 rfl (go_bipush (pc := 1) d44_1 cb_8 (go_iand (pc := 3) d44_3 ?_))
  by_cases h1 : (v0 &&& (8 : Int32)) = 0
  · replace hf := (if_pos h1).symm.trans hf
    refine go_ifN (pc := 4) d44_4 (XT.i0_ne_f h1) ?_
    refine go_iloadN (pc := 7) d44_7 rfl (go_iloadN (pc := 8) d44_8 rfl (go_iconst (pc := 9) d44_9 ci_4 (go_iushr (pc := 10) d44_10 (go_bipush (pc := 11) d44_11 cb_7 (go_iand (pc := 13) d44_13 (go_iadd (pc := 14) d44_14 ?_))))))
    cases hf
    exact go_iret (pc := 15) rfl d44_15
  · replace hf := (if_neg h1).symm.trans hf
    refine go_ifY (pc := 4) (pc' := 16) d44_4 (XT.i0_ne_t h1) j_4_12 ?_
    refine go_iloadN (pc := 16) d44_16 rfl (go_ldc (pc := 17) (v := (2147483647 : Int32)) d44_17 (List.mem_of_getElem? (i := 234) rfl) (go_iand (pc := 19) d44_19 (go_sipush (pc := 20) d44_20 cs_136 (go_irem (pc := 23) d44_23 (by decide) ?_))))
    cases hf
    exact go_iret (pc := 24) rfl d44_24
theorem c_h_addrOf_n1 (v0 : Int32) (v1 : Int32) (q : List Int32) (y0 : S) (o : Int32) (hf : h_addrOf v0 v1 = some o) : Call PP m44 [.int v0, .int v1] (some q, [(9, y0)]) (some (.int o), (some q, [(9, y0)])) := call_of_go pl_1 rfl (fun h => nomatch h) (h_addrOf_ok_n1 v0 v1   _ hf)
def T_law_35 (k35 : Int32 → Int32 → Int32 → Int32 → Int32 → Int32 → Int64 → Int32 → List Int32 → S → Option (Int32 × S)) : Prop := ∀ (v2 : Int32) (v3 : Int32) (v4 : Int32) (v5 : Int32) (v6 : Int32) (v7 : Int32) (v8 : Int64) (v10 : Int32) (q : List Int32) (t0 : S) (x11 : Slot) (x12 : Slot) (x13 : Slot) (x14 : Slot) (x15 : Slot) (x16 : Slot) (x17 : Slot) (x18 : Slot) (hx11 : k1 x11) (hx12 : k1 x12) (hx13 : k1 x13) (hx14 : k1 x14) (hx15 : k1 x15) (hx16 : k1 x16) (hx17 : k1 x17) (hx18 : k1 x18) (o : Int32 × S), k35 v2 v3 v4 v5 v6 v7 v8 v10 q t0 = some o → Go PP m59 35 [.val (.ref 0), .val (.ref 1), .val (.int v2), .val (.int v3), .val (.int v4), .val (.int v5), .val (.int v6), .val (.int v7), .val (.long v8), .second, .val (.int v10), x11, x12, x13, x14, x15, x16, x17, x18] [] (some q, [(9, t0)]) (some (.int o.1), (some q, [(9, o.2)]))
set_option maxRecDepth 65536 in
set_option maxHeartbeats 4000000 in
theorem law_650_ok {k35 : Int32 → Int32 → Int32 → Int32 → Int32 → Int32 → Int64 → Int32 → List Int32 → S → Option (Int32 × S)} (hk35 : T_law_35 k35) : ∀ (v2 : Int32) (v3 : Int32) (v4 : Int32) (v5 : Int32) (v8 : Int64) (v10 : Int32) (q : List Int32) (t0 : S) (x6 : Slot) (x7 : Slot) (x11 : Slot) (x12 : Slot) (x13 : Slot) (x14 : Slot) (x15 : Slot) (x16 : Slot) (x17 : Slot) (x18 : Slot) (hx6 : k1 x6) (hx7 : k1 x7) (hx11 : k1 x11) (hx12 : k1 x12) (hx13 : k1 x13) (hx14 : k1 x14) (hx15 : k1 x15) (hx16 : k1 x16) (hx17 : k1 x17) (hx18 : k1 x18) (o : Int32 × S), law_650 k35 v2 v3 v4 v5 v8 v10 q t0 = some o → Go PP m59 650 [.val (.ref 0), .val (.ref 1), .val (.int v2), .val (.int v3), .val (.int v4), .val (.int v5), x6, x7, .val (.long v8), .second, .val (.int v10), x11, x12, x13, x14, x15, x16, x17, x18] [] (some q, [(9, t0)]) (some (.int o.1), (some q, [(9, o.2)])) := by
  intro v2 v3 v4 v5 v8 v10 q t0 x6 x7 x11 x12 x13 x14 x15 x16 x17 x18 hx6 hx7 hx11 hx12 hx13 hx14 hx15 hx16 hx17 hx18 o hf
  unfold law_650 at hf
  refine go_aloadN (pc := 650) d59_650 rfl ?_
  refine go_virt (pc := 651) (i := 0) (as := []) (rest := []) (w' := (some q, [(9, t0)])) lk_1_17 pd_30 rfl oid_0 rfl rfl rfl rfl rfl rfl ⟨rfl, rfl, rfl, rfl, rfl⟩ d59_651 (c_k_quarantineCount t0) ?_
  refine go_istore (pc := 654) (L' := [.val (.ref 0), .val (.ref 1), .val (.int v2), .val (.int v3), .val (.int v4), .val (.int v5), .val (.int (k_quarantineCount t0)), x7, .val (.long v8), .second, .val (.int v10), x11, x12, x13, x14, x15, x16, x17, x18]) d59_654 (stx rfl hx6 rfl) (go_aloadN (pc := 656) d59_656 rfl ?_)
  refine go_virt (pc := 657) (i := 0) (as := []) (rest := []) (w' := (some q, [(9, t0)])) lk_1_21 pd_31 rfl oid_0 rfl rfl rfl rfl rfl rfl ⟨rfl, rfl, rfl, rfl, rfl⟩ d59_657 (c_k_quarantineBytes t0) ?_
  refine go_istore (pc := 660) (L' := [.val (.ref 0), .val (.ref 1), .val (.int v2), .val (.int v3), .val (.int v4), .val (.int v5), .val (.int (k_quarantineCount t0)), .val (.int (k_quarantineBytes t0)), .val (.long v8), .second, .val (.int v10), x11, x12, x13, x14, x15, x16, x17, x18]) d59_660 (stx rfl hx7 rfl) (go_aloadN (pc := 662) d59_662 rfl ?_)
  refine go_virt (pc := 663) (i := 0) (as := []) (rest := []) (w' := (some q, [(9, t0)])) lk_1_64 pd_56 rfl oid_0 rfl rfl rfl rfl rfl rfl ⟨rfl, rfl, rfl, rfl, rfl⟩ d59_663 (c_k_liveCount t0) ?_
  refine go_iloadN (pc := 666) d59_666 rfl ?_
  by_cases h1 : (k_liveCount t0) = v2
  · replace hf := (if_pos h1).symm.trans hf
    refine go_icN (pc := 667) d59_667 (XT.ii_ne_f h1) ?_
    refine go_aloadN (pc := 670) d59_670 rfl ?_
    refine go_virt (pc := 671) (i := 0) (as := []) (rest := []) (w' := (some q, [(9, t0)])) lk_1_67 pd_57 rfl oid_0 rfl rfl rfl rfl rfl rfl ⟨rfl, rfl, rfl, rfl, rfl⟩ d59_671 (c_k_errorCount t0) ?_
    refine go_iloadN (pc := 674) d59_674 rfl ?_
    by_cases h2 : (k_errorCount t0) = v3
    · replace hf := (if_pos h2).symm.trans hf
      refine go_icN (pc := 675) d59_675 (XT.ii_ne_f h2) ?_
      refine go_aloadN (pc := 678) d59_678 rfl ?_
      refine go_virt (pc := 679) (i := 0) (as := []) (rest := []) (w' := (some q, [(9, t0)])) lk_1_61 pd_55 rfl oid_0 rfl rfl rfl rfl rfl rfl ⟨rfl, rfl, rfl, rfl, rfl⟩ d59_679 (c_k_lastBadAddress t0) ?_
      refine go_iload (pc := 682) d59_682 rfl ?_
      by_cases h3 : (k_lastBadAddress t0) = v5
      · replace hf := (if_pos h3).symm.trans hf
        refine go_icN (pc := 684) d59_684 (XT.ii_ne_f h3) ?_
        refine go_aloadN (pc := 687) d59_687 rfl ?_
        refine go_virt (pc := 688) (i := 0) (as := []) (rest := []) (w' := (some q, [(9, t0)])) lk_1_57 pd_54 rfl oid_0 rfl rfl rfl rfl rfl rfl ⟨rfl, rfl, rfl, rfl, rfl⟩ d59_688 (c_k_lastValue t0) ?_
        refine go_lload (pc := 691) d59_691 rfl (go_lcmp (pc := 693) d59_693 ?_)
        by_cases h4 : (k_lastValue t0) = v8
        · replace hf := (if_pos h4).symm.trans hf
          refine go_ifY (pc := 694) (pc' := 699) d59_694 (XT.ll_eq_t h4) j_694_5 ?_
          refine go_iload (pc := 699) d59_699 rfl ?_
          by_cases h5 : (k_quarantineBytes t0) < 0
          · replace hf := (if_pos h5).symm.trans hf
            refine go_ifY (pc := 701) (pc' := 729) d59_701 (XT.i0_lt_t h5) j_701_28 ?_
            refine go_iconst (pc := 729) d59_729 ci_0 ?_
            cases hf
            exact go_zret (pc := 730) rfl d59_730 (show (0 : Int32) = nar .boolean (0 : Int32) by decide)
          · replace hf := (if_neg h5).symm.trans hf
            refine go_ifN (pc := 701) d59_701 (XT.i0_lt_f h5) ?_
            refine go_iload (pc := 704) d59_704 rfl (go_bipush (pc := 706) d59_706 cb_96 ?_)
            by_cases h6 : (96 : Int32) < (k_quarantineBytes t0)
            · replace hf := (if_pos h6).symm.trans hf
              refine go_icY (pc := 708) (pc' := 729) d59_708 (XT.ii_gt_t h6) j_708_21 ?_
              refine go_iconst (pc := 729) d59_729 ci_0 ?_
              cases hf
              exact go_zret (pc := 730) rfl d59_730 (show (0 : Int32) = nar .boolean (0 : Int32) by decide)
            · replace hf := (if_neg h6).symm.trans hf
              refine go_icN (pc := 708) d59_708 (XT.ii_gt_f h6) ?_
              refine go_iload (pc := 711) d59_711 rfl (go_bipush (pc := 713) d59_713 cb_8 (go_irem (pc := 715) d59_715 (by decide) ?_))
              by_cases h7 : ((k_quarantineBytes t0) % (8 : Int32)) = 0
              · replace hf := (if_pos h7).symm.trans hf
                refine go_ifN (pc := 716) d59_716 (XT.i0_ne_f h7) ?_
                refine go_iload (pc := 719) d59_719 rfl (go_bipush (pc := 721) d59_721 cb_24 (go_iload (pc := 723) d59_723 rfl (go_imul (pc := 725) d59_725 ?_)))
                by_cases h8 : (k_quarantineBytes t0) < ((24 : Int32) * (k_quarantineCount t0))
                · replace hf := (if_pos h8).symm.trans hf
                  refine go_icN (pc := 726) d59_726 (XT.ii_ge_f h8) ?_
                  refine go_iconst (pc := 729) d59_729 ci_0 ?_
                  cases hf
                  exact go_zret (pc := 730) rfl d59_730 (show (0 : Int32) = nar .boolean (0 : Int32) by decide)
                · replace hf := (if_neg h8).symm.trans hf
                  refine go_icY (pc := 726) (pc' := 731) d59_726 (XT.ii_ge_t h8) j_726_5 ?_
                  refine go_iconst (pc := 731) d59_731 ci_3 (go_iloadN (pc := 732) d59_732 rfl (go_iload (pc := 733) d59_733 rfl (go_iadd (pc := 735) d59_735 (go_imul (pc := 736) d59_736 (go_aloadN (pc := 737) d59_737 rfl ?_)))))
                  obtain ⟨r738, e9, hf⟩ := Option.bind_eq_some_iff.mp hf
                  refine go_virt (pc := 738) (i := 0) (as := []) (rest := [.int ((3 : Int32) * (v2 + (k_quarantineCount t0)))]) (w' := (some q, [(9, t0)])) lk_1_24 pd_32 rfl oid_0 rfl rfl rfl rfl rfl rfl ⟨rfl, rfl, rfl, rfl, rfl⟩ d59_738 (c_k_largestFreeRun t0 _ e9) ?_
                  refine go_iadd (pc := 741) d59_741 (go_bipush (pc := 742) d59_742 cb_16 ?_)
                  by_cases h10 : (16 : Int32) < (((3 : Int32) * (v2 + (k_quarantineCount t0))) + r738)
                  · replace hf := (if_pos h10).symm.trans hf
                    refine go_icY (pc := 744) (pc' := 760) d59_744 (XT.ii_gt_t h10) j_744_16 ?_
                    refine go_iconst (pc := 760) d59_760 ci_0 ?_
                    cases hf
                    exact go_zret (pc := 761) rfl d59_761 (show (0 : Int32) = nar .boolean (0 : Int32) by decide)
                  · replace hf := (if_neg h10).symm.trans hf
                    refine go_icN (pc := 744) d59_744 (XT.ii_gt_f h10) ?_
                    refine go_aloadN (pc := 747) d59_747 rfl ?_
                    refine go_virt (pc := 748) (i := 0) (as := []) (rest := []) (w' := (some q, [(9, t0)])) lk_1_70 pd_58 rfl oid_0 rfl rfl rfl rfl rfl rfl ⟨rfl, rfl, rfl, rfl, rfl⟩ d59_748 (c_k_freeRunCount t0) ?_
                    refine go_iloadN (pc := 751) d59_751 rfl (go_iload (pc := 752) d59_752 rfl (go_iadd (pc := 754) d59_754 (go_iconst (pc := 755) d59_755 ci_1 (go_iadd (pc := 756) d59_756 ?_))))
                    by_cases h11 : ((v2 + (k_quarantineCount t0)) + (1 : Int32)) < (k_freeRunCount t0)
                    · replace hf := (if_pos h11).symm.trans hf
                      refine go_icN (pc := 757) d59_757 (XT.ii_le_f h11) ?_
                      refine go_iconst (pc := 760) d59_760 ci_0 ?_
                      cases hf
                      exact go_zret (pc := 761) rfl d59_761 (show (0 : Int32) = nar .boolean (0 : Int32) by decide)
                    · replace hf := (if_neg h11).symm.trans hf
                      refine go_icY (pc := 757) (pc' := 762) d59_757 (XT.ii_le_t h11) j_757_5 ?_
                      refine go_iinc (pc := 762) (L' := [.val (.ref 0), .val (.ref 1), .val (.int v2), .val (.int v3), .val (.int v4), .val (.int v5), .val (.int (k_quarantineCount t0)), .val (.int (k_quarantineBytes t0)), .val (.long v8), .second, .val (.int (v10 + (4 : Int32))), x11, x12, x13, x14, x15, x16, x17, x18]) d59_762 rfl ci_4 rfl (go_goto (pc := 765) (pc' := 35) d59_765 j_765_m730 ?_)
                      exact hk35 v2 v3 v4 v5 (k_quarantineCount t0) (k_quarantineBytes t0) v8 (v10 + (4 : Int32)) q t0 x11 x12 x13 x14 x15 x16 x17 x18 hx11 hx12 hx13 hx14 hx15 hx16 hx17 hx18 _ hf
              · replace hf := (if_neg h7).symm.trans hf
                refine go_ifY (pc := 716) (pc' := 729) d59_716 (XT.i0_ne_t h7) j_716_13 ?_
                refine go_iconst (pc := 729) d59_729 ci_0 ?_
                cases hf
                exact go_zret (pc := 730) rfl d59_730 (show (0 : Int32) = nar .boolean (0 : Int32) by decide)
        · replace hf := (if_neg h4).symm.trans hf
          refine go_ifN (pc := 694) d59_694 (XT.ll_eq_f h4) ?_
          refine go_iconst (pc := 697) d59_697 ci_0 ?_
          cases hf
          exact go_zret (pc := 698) rfl d59_698 (show (0 : Int32) = nar .boolean (0 : Int32) by decide)
      · replace hf := (if_neg h3).symm.trans hf
        refine go_icY (pc := 684) (pc' := 697) d59_684 (XT.ii_ne_t h3) j_684_13 ?_
        refine go_iconst (pc := 697) d59_697 ci_0 ?_
        cases hf
        exact go_zret (pc := 698) rfl d59_698 (show (0 : Int32) = nar .boolean (0 : Int32) by decide)
    · replace hf := (if_neg h2).symm.trans hf
      refine go_icY (pc := 675) (pc' := 697) d59_675 (XT.ii_ne_t h2) j_675_22 ?_
      refine go_iconst (pc := 697) d59_697 ci_0 ?_
      cases hf
      exact go_zret (pc := 698) rfl d59_698 (show (0 : Int32) = nar .boolean (0 : Int32) by decide)
  · replace hf := (if_neg h1).symm.trans hf
    refine go_icY (pc := 667) (pc' := 697) d59_667 (XT.ii_ne_t h1) j_667_30 ?_
    refine go_iconst (pc := 697) d59_697 ci_0 ?_
    cases hf
    exact go_zret (pc := 698) rfl d59_698 (show (0 : Int32) = nar .boolean (0 : Int32) by decide)
set_option maxRecDepth 65536 in
set_option maxHeartbeats 4000000 in
theorem law_630_ok {k35 : Int32 → Int32 → Int32 → Int32 → Int32 → Int32 → Int64 → Int32 → List Int32 → S → Option (Int32 × S)} (hk35 : T_law_35 k35) : ∀ (v2 : Int32) (v3 : Int32) (v4 : Int32) (v5 : Int32) (v6 : Int32) (v7 : Int32) (v8 : Int64) (v10 : Int32) (q : List Int32) (t0 : S) (x11 : Slot) (x12 : Slot) (x13 : Slot) (x14 : Slot) (x15 : Slot) (x16 : Slot) (x17 : Slot) (x18 : Slot) (hx11 : k1 x11) (hx12 : k1 x12) (hx13 : k1 x13) (hx14 : k1 x14) (hx15 : k1 x15) (hx16 : k1 x16) (hx17 : k1 x17) (hx18 : k1 x18) (o : Int32 × S), law_630 k35 v2 v3 v4 v5 v6 v7 v8 v10 q t0 = some o → Go PP m59 630 [.val (.ref 0), .val (.ref 1), .val (.int v2), .val (.int v3), .val (.int v4), .val (.int v5), .val (.int v6), .val (.int v7), .val (.long v8), .second, .val (.int v10), x11, x12, x13, x14, x15, x16, x17, x18] [] (some q, [(9, t0)]) (some (.int o.1), (some q, [(9, o.2)])) := by
  intro v2 v3 v4 v5 v6 v7 v8 v10 q t0 x11 x12 x13 x14 x15 x16 x17 x18 hx11 hx12 hx13 hx14 hx15 hx16 hx17 hx18 o hf
  unfold law_630 at hf
  refine go_aloadN (pc := 630) d59_630 rfl ?_
  refine go_virt (pc := 631) (i := 0) (as := []) (rest := []) (w' := (some q, [(9, t0)])) lk_1_17 pd_30 rfl oid_0 rfl rfl rfl rfl rfl rfl ⟨rfl, rfl, rfl, rfl, rfl⟩ d59_631 (c_k_quarantineCount t0) ?_
  refine go_iload (pc := 634) d59_634 rfl ?_
  by_cases h1 : (k_quarantineCount t0) = v6
  · replace hf := (if_pos h1).symm.trans hf
    refine go_icN (pc := 636) d59_636 (XT.ii_ne_f h1) ?_
    refine go_aloadN (pc := 639) d59_639 rfl ?_
    refine go_virt (pc := 640) (i := 0) (as := []) (rest := []) (w' := (some q, [(9, t0)])) lk_1_21 pd_31 rfl oid_0 rfl rfl rfl rfl rfl rfl ⟨rfl, rfl, rfl, rfl, rfl⟩ d59_640 (c_k_quarantineBytes t0) ?_
    refine go_iload (pc := 643) d59_643 rfl ?_
    by_cases h2 : (k_quarantineBytes t0) = v7
    · replace hf := (if_pos h2).symm.trans hf
      refine go_icY (pc := 645) (pc' := 650) d59_645 (XT.ii_eq_t h2) j_645_5 ?_
      exact law_650_ok hk35 v2 v3 v4 v5 v8 v10 q t0 (.val (.int v6)) (.val (.int v7)) x11 x12 x13 x14 x15 x16 x17 x18 (Or.inr ⟨_, rfl, rfl⟩) (Or.inr ⟨_, rfl, rfl⟩) hx11 hx12 hx13 hx14 hx15 hx16 hx17 hx18 _ hf
    · replace hf := (if_neg h2).symm.trans hf
      refine go_icN (pc := 645) d59_645 (XT.ii_eq_f h2) ?_
      refine go_iconst (pc := 648) d59_648 ci_0 ?_
      cases hf
      exact go_zret (pc := 649) rfl d59_649 (show (0 : Int32) = nar .boolean (0 : Int32) by decide)
  · replace hf := (if_neg h1).symm.trans hf
    refine go_icY (pc := 636) (pc' := 648) d59_636 (XT.ii_ne_t h1) j_636_12 ?_
    refine go_iconst (pc := 648) d59_648 ci_0 ?_
    cases hf
    exact go_zret (pc := 649) rfl d59_649 (show (0 : Int32) = nar .boolean (0 : Int32) by decide)
set_option maxRecDepth 65536 in
set_option maxHeartbeats 4000000 in
theorem law_491_ok {k35 : Int32 → Int32 → Int32 → Int32 → Int32 → Int32 → Int64 → Int32 → List Int32 → S → Option (Int32 × S)} (hk35 : T_law_35 k35) : ∀ (v2 : Int32) (v3 : Int32) (v4 : Int32) (v5 : Int32) (v6 : Int32) (v7 : Int32) (v8 : Int64) (v10 : Int32) (v11 : Int32) (v15 : Int32) (v16 : Int32) (v17 : Int32) (q : List Int32) (t0 : S) (x12 : Slot) (x13 : Slot) (x14 : Slot) (x18 : Slot) (hx12 : k1 x12) (hx13 : k1 x13) (hx14 : k1 x14) (hx18 : k1 x18) (o : Int32 × S), law_491 k35 v2 v3 v4 v5 v6 v7 v8 v10 v11 v15 v16 v17 q t0 = some o → Go PP m59 491 [.val (.ref 0), .val (.ref 1), .val (.int v2), .val (.int v3), .val (.int v4), .val (.int v5), .val (.int v6), .val (.int v7), .val (.long v8), .second, .val (.int v10), .val (.int v11), x12, x13, x14, .val (.int v15), .val (.int v16), .val (.int v17), x18] [] (some q, [(9, t0)]) (some (.int o.1), (some q, [(9, o.2)])) := by
  intro v2 v3 v4 v5 v6 v7 v8 v10 v11 v15 v16 v17 q t0 x12 x13 x14 x18 hx12 hx13 hx14 hx18 o hf
  unfold law_491 at hf
  refine go_iload (pc := 491) d59_491 rfl (go_iconst (pc := 493) d59_493 ci_3 ?_)
  by_cases h1 : v15 = (3 : Int32)
  · replace hf := (if_pos h1).symm.trans hf
    refine go_icN (pc := 494) d59_494 (XT.ii_ne_f h1) ?_
    refine go_iload (pc := 497) d59_497 rfl (go_bipush (pc := 499) d59_499 cb_6 ?_)
    by_cases h15 : v17 = (6 : Int32)
    · replace hf := (if_pos h15).symm.trans hf
      refine go_icY (pc := 501) (pc' := 630) d59_501 (XT.ii_eq_t h15) j_501_129 ?_
      exact law_630_ok hk35 v2 v3 v4 v5 v6 v7 v8 v10 q t0 (.val (.int v11)) x12 x13 x14 (.val (.int v15)) (.val (.int v16)) (.val (.int v17)) x18 (Or.inr ⟨_, rfl, rfl⟩) hx12 hx13 hx14 (Or.inr ⟨_, rfl, rfl⟩) (Or.inr ⟨_, rfl, rfl⟩) (Or.inr ⟨_, rfl, rfl⟩) hx18 _ hf
    · replace hf := (if_neg h15).symm.trans hf
      refine go_icN (pc := 501) d59_501 (XT.ii_eq_f h15) ?_
      refine go_iconst (pc := 504) d59_504 ci_0 ?_
      cases hf
      exact go_zret (pc := 505) rfl d59_505 (show (0 : Int32) = nar .boolean (0 : Int32) by decide)
  · replace hf := (if_neg h1).symm.trans hf
    refine go_icY (pc := 494) (pc' := 506) d59_494 (XT.ii_ne_t h1) j_494_12 ?_
    refine go_iload (pc := 506) d59_506 rfl ?_
    by_cases h2 : v17 = 0
    · replace hf := (if_pos h2).symm.trans hf
      refine go_ifN (pc := 508) d59_508 (XT.i0_ne_f h2) ?_
      refine go_iload (pc := 511) d59_511 rfl (go_iload (pc := 513) d59_513 rfl (go_iadd (pc := 515) d59_515 (go_sipush (pc := 516) d59_516 cs_128 ?_)))
      by_cases h10 : (128 : Int32) < (v16 + v15)
      · replace hf := (if_pos h10).symm.trans hf
        refine go_icN (pc := 519) d59_519 (XT.ii_le_f h10) ?_
        refine go_iconst (pc := 522) d59_522 ci_0 ?_
        cases hf
        exact go_zret (pc := 523) rfl d59_523 (show (0 : Int32) = nar .boolean (0 : Int32) by decide)
      · replace hf := (if_neg h10).symm.trans hf
        refine go_icY (pc := 519) (pc' := 524) d59_519 (XT.ii_le_t h10) j_519_5 ?_
        refine go_iload (pc := 524) d59_524 rfl (go_iconst (pc := 526) d59_526 ci_2 ?_)
        by_cases h11 : v11 = (2 : Int32)
        · replace hf := (if_pos h11).symm.trans hf
          refine go_icN (pc := 527) d59_527 (XT.ii_ne_f h11) ?_
          refine go_aloadN (pc := 530) d59_530 rfl ?_
          refine go_virt (pc := 531) (i := 0) (as := []) (rest := []) (w' := (some q, [(9, t0)])) lk_1_57 pd_54 rfl oid_0 rfl rfl rfl rfl rfl rfl ⟨rfl, rfl, rfl, rfl, rfl⟩ d59_531 (c_k_lastValue t0) ?_
          refine go_lstore (pc := 534) (L' := [.val (.ref 0), .val (.ref 1), .val (.int v2), .val (.int v3), .val (.int v4), .val (.int v5), .val (.int v6), .val (.int v7), .val (.long (k_lastValue t0)), .second, .val (.int v10), .val (.int v11), x12, x13, x14, .val (.int v15), .val (.int v16), .val (.int v17), x18]) d59_534 rfl (go_iload (pc := 536) d59_536 rfl (go_bipush (pc := 538) d59_538 cb_8 ?_))
          by_cases h12 : v15 < (8 : Int32)
          · replace hf := (if_pos h12).symm.trans hf
            refine go_icN (pc := 540) d59_540 (XT.ii_ge_f h12) ?_
            refine go_lload (pc := 543) d59_543 rfl (go_lconst (pc := 545) d59_545 cl_0 (go_lcmp (pc := 546) d59_546 ?_))
            by_cases h13 : (k_lastValue t0) < (0 : Int64)
            · replace hf := (if_pos h13).symm.trans hf
              refine go_ifY (pc := 547) (pc' := 563) d59_547 (XT.ll_lt_t h13) j_547_16 ?_
              refine go_iconst (pc := 563) d59_563 ci_0 ?_
              cases hf
              exact go_zret (pc := 564) rfl d59_564 (show (0 : Int32) = nar .boolean (0 : Int32) by decide)
            · replace hf := (if_neg h13).symm.trans hf
              refine go_ifN (pc := 547) d59_547 (XT.ll_lt_f h13) ?_
              refine go_lload (pc := 550) d59_550 rfl (go_lconst (pc := 552) d59_552 cl_1 (go_bipush (pc := 553) d59_553 cb_8 (go_iload (pc := 555) d59_555 rfl (go_imul (pc := 557) d59_557 (go_lshl (pc := 558) d59_558 (go_lcmp (pc := 559) d59_559 ?_))))))
              by_cases h14 : (k_lastValue t0) < ((1 : Int64) <<< (((8 : Int32) * v15).toInt64 &&& 63))
              · replace hf := (if_pos h14).symm.trans hf
                refine go_ifY (pc := 560) (pc' := 630) d59_560 (XT.ll_lt_t h14) j_560_70 ?_
                exact law_630_ok hk35 v2 v3 v4 v5 v6 v7 (k_lastValue t0) v10 q t0 (.val (.int v11)) x12 x13 x14 (.val (.int v15)) (.val (.int v16)) (.val (.int v17)) x18 (Or.inr ⟨_, rfl, rfl⟩) hx12 hx13 hx14 (Or.inr ⟨_, rfl, rfl⟩) (Or.inr ⟨_, rfl, rfl⟩) (Or.inr ⟨_, rfl, rfl⟩) hx18 _ hf
              · replace hf := (if_neg h14).symm.trans hf
                refine go_ifN (pc := 560) d59_560 (XT.ll_lt_f h14) ?_
                refine go_iconst (pc := 563) d59_563 ci_0 ?_
                cases hf
                exact go_zret (pc := 564) rfl d59_564 (show (0 : Int32) = nar .boolean (0 : Int32) by decide)
          · replace hf := (if_neg h12).symm.trans hf
            refine go_icY (pc := 540) (pc' := 630) d59_540 (XT.ii_ge_t h12) j_540_90 ?_
            exact law_630_ok hk35 v2 v3 v4 v5 v6 v7 (k_lastValue t0) v10 q t0 (.val (.int v11)) x12 x13 x14 (.val (.int v15)) (.val (.int v16)) (.val (.int v17)) x18 (Or.inr ⟨_, rfl, rfl⟩) hx12 hx13 hx14 (Or.inr ⟨_, rfl, rfl⟩) (Or.inr ⟨_, rfl, rfl⟩) (Or.inr ⟨_, rfl, rfl⟩) hx18 _ hf
        · replace hf := (if_neg h11).symm.trans hf
          refine go_icY (pc := 527) (pc' := 630) d59_527 (XT.ii_ne_t h11) j_527_103 ?_
          exact law_630_ok hk35 v2 v3 v4 v5 v6 v7 v8 v10 q t0 (.val (.int v11)) x12 x13 x14 (.val (.int v15)) (.val (.int v16)) (.val (.int v17)) x18 (Or.inr ⟨_, rfl, rfl⟩) hx12 hx13 hx14 (Or.inr ⟨_, rfl, rfl⟩) (Or.inr ⟨_, rfl, rfl⟩) (Or.inr ⟨_, rfl, rfl⟩) hx18 _ hf
    · replace hf := (if_neg h2).symm.trans hf
      refine go_ifY (pc := 508) (pc' := 565) d59_508 (XT.i0_ne_t h2) j_508_57 ?_
      refine go_iinc (pc := 565) (L' := [.val (.ref 0), .val (.ref 1), .val (.int v2), .val (.int (v3 + (1 : Int32))), .val (.int v4), .val (.int v5), .val (.int v6), .val (.int v7), .val (.long v8), .second, .val (.int v10), .val (.int v11), x12, x13, x14, .val (.int v15), .val (.int v16), .val (.int v17), x18]) d59_565 rfl ci_1 rfl (go_aloadN (pc := 568) d59_568 rfl ?_)
      refine go_virt (pc := 569) (i := 0) (as := []) (rest := []) (w' := (some q, [(9, t0)])) lk_1_61 pd_55 rfl oid_0 rfl rfl rfl rfl rfl rfl ⟨rfl, rfl, rfl, rfl, rfl⟩ d59_569 (c_k_lastBadAddress t0) ?_
      refine go_istore (pc := 572) (L' := [.val (.ref 0), .val (.ref 1), .val (.int v2), .val (.int (v3 + (1 : Int32))), .val (.int v4), .val (.int (k_lastBadAddress t0)), .val (.int v6), .val (.int v7), .val (.long v8), .second, .val (.int v10), .val (.int v11), x12, x13, x14, .val (.int v15), .val (.int v16), .val (.int v17), x18]) d59_572 rfl (go_iload (pc := 574) d59_574 rfl (go_iconst (pc := 576) d59_576 ci_1 ?_))
      by_cases h3 : v17 < (1 : Int32)
      · replace hf := (if_pos h3).symm.trans hf
        refine go_icY (pc := 577) (pc' := 605) d59_577 (XT.ii_lt_t h3) j_577_28 ?_
        refine go_iconst (pc := 605) d59_605 ci_0 ?_
        cases hf
        exact go_zret (pc := 606) rfl d59_606 (show (0 : Int32) = nar .boolean (0 : Int32) by decide)
      · replace hf := (if_neg h3).symm.trans hf
        refine go_icN (pc := 577) d59_577 (XT.ii_lt_f h3) ?_
        refine go_iload (pc := 580) d59_580 rfl (go_iconst (pc := 582) d59_582 ci_5 ?_)
        by_cases h4 : (5 : Int32) < v17
        · replace hf := (if_pos h4).symm.trans hf
          refine go_icY (pc := 583) (pc' := 605) d59_583 (XT.ii_gt_t h4) j_583_22 ?_
          refine go_iconst (pc := 605) d59_605 ci_0 ?_
          cases hf
          exact go_zret (pc := 606) rfl d59_606 (show (0 : Int32) = nar .boolean (0 : Int32) by decide)
        · replace hf := (if_neg h4).symm.trans hf
          refine go_icN (pc := 583) d59_583 (XT.ii_gt_f h4) ?_
          refine go_iload (pc := 586) d59_586 rfl (go_iload (pc := 588) d59_588 rfl ?_)
          by_cases h5 : (k_lastBadAddress t0) < v16
          · replace hf := (if_pos h5).symm.trans hf
            refine go_icY (pc := 590) (pc' := 605) d59_590 (XT.ii_lt_t h5) j_590_15 ?_
            refine go_iconst (pc := 605) d59_605 ci_0 ?_
            cases hf
            exact go_zret (pc := 606) rfl d59_606 (show (0 : Int32) = nar .boolean (0 : Int32) by decide)
          · replace hf := (if_neg h5).symm.trans hf
            refine go_icN (pc := 590) d59_590 (XT.ii_lt_f h5) ?_
            refine go_iload (pc := 593) d59_593 rfl (go_iload (pc := 595) d59_595 rfl (go_iload (pc := 597) d59_597 rfl (go_iadd (pc := 599) d59_599 (go_iconst (pc := 600) d59_600 ci_1 (go_isub (pc := 601) d59_601 ?_)))))
            by_cases h6 : ((v16 + v15) - (1 : Int32)) < (k_lastBadAddress t0)
            · replace hf := (if_pos h6).symm.trans hf
              refine go_icN (pc := 602) d59_602 (XT.ii_le_f h6) ?_
              refine go_iconst (pc := 605) d59_605 ci_0 ?_
              cases hf
              exact go_zret (pc := 606) rfl d59_606 (show (0 : Int32) = nar .boolean (0 : Int32) by decide)
            · replace hf := (if_neg h6).symm.trans hf
              refine go_icY (pc := 602) (pc' := 607) d59_602 (XT.ii_le_t h6) j_602_5 ?_
              refine go_iload (pc := 607) d59_607 rfl (go_sipush (pc := 609) d59_609 cs_128 ?_)
              by_cases h7 : v16 < (128 : Int32)
              · replace hf := (if_pos h7).symm.trans hf
                refine go_icY (pc := 612) (pc' := 630) d59_612 (XT.ii_lt_t h7) j_612_18 ?_
                exact law_630_ok hk35 v2 (v3 + (1 : Int32)) v4 (k_lastBadAddress t0) v6 v7 v8 v10 q t0 (.val (.int v11)) x12 x13 x14 (.val (.int v15)) (.val (.int v16)) (.val (.int v17)) x18 (Or.inr ⟨_, rfl, rfl⟩) hx12 hx13 hx14 (Or.inr ⟨_, rfl, rfl⟩) (Or.inr ⟨_, rfl, rfl⟩) (Or.inr ⟨_, rfl, rfl⟩) hx18 _ hf
              · replace hf := (if_neg h7).symm.trans hf
                refine go_icN (pc := 612) d59_612 (XT.ii_lt_f h7) ?_
                refine go_iload (pc := 615) d59_615 rfl (go_iconst (pc := 617) d59_617 ci_5 ?_)
                by_cases h8 : v17 = (5 : Int32)
                · replace hf := (if_pos h8).symm.trans hf
                  refine go_icN (pc := 618) d59_618 (XT.ii_ne_f h8) ?_
                  refine go_iload (pc := 621) d59_621 rfl (go_iload (pc := 623) d59_623 rfl ?_)
                  by_cases h9 : (k_lastBadAddress t0) = v16
                  · replace hf := (if_pos h9).symm.trans hf
                    refine go_icY (pc := 625) (pc' := 630) d59_625 (XT.ii_eq_t h9) j_625_5 ?_
                    exact law_630_ok hk35 v2 (v3 + (1 : Int32)) v4 (k_lastBadAddress t0) v6 v7 v8 v10 q t0 (.val (.int v11)) x12 x13 x14 (.val (.int v15)) (.val (.int v16)) (.val (.int v17)) x18 (Or.inr ⟨_, rfl, rfl⟩) hx12 hx13 hx14 (Or.inr ⟨_, rfl, rfl⟩) (Or.inr ⟨_, rfl, rfl⟩) (Or.inr ⟨_, rfl, rfl⟩) hx18 _ hf
                  · replace hf := (if_neg h9).symm.trans hf
                    refine go_icN (pc := 625) d59_625 (XT.ii_eq_f h9) ?_
                    refine go_iconst (pc := 628) d59_628 ci_0 ?_
                    cases hf
                    exact go_zret (pc := 629) rfl d59_629 (show (0 : Int32) = nar .boolean (0 : Int32) by decide)
                · replace hf := (if_neg h8).symm.trans hf
                  refine go_icY (pc := 618) (pc' := 628) d59_618 (XT.ii_ne_t h8) j_618_10 ?_
                  refine go_iconst (pc := 628) d59_628 ci_0 ?_
                  cases hf
                  exact go_zret (pc := 629) rfl d59_629 (show (0 : Int32) = nar .boolean (0 : Int32) by decide)
set_option maxRecDepth 65536 in
set_option maxHeartbeats 4000000 in
theorem law_436_ok {k35 : Int32 → Int32 → Int32 → Int32 → Int32 → Int32 → Int64 → Int32 → List Int32 → S → Option (Int32 × S)} (hk35 : T_law_35 k35) : ∀ (v2 : Int32) (v3 : Int32) (v4 : Int32) (v5 : Int32) (v8 : Int64) (v10 : Int32) (q : List Int32) (t0 : S) (x6 : Slot) (x7 : Slot) (x11 : Slot) (x12 : Slot) (x13 : Slot) (x14 : Slot) (x15 : Slot) (x16 : Slot) (x17 : Slot) (x18 : Slot) (hx6 : k1 x6) (hx7 : k1 x7) (hx11 : k1 x11) (hx12 : k1 x12) (hx13 : k1 x13) (hx14 : k1 x14) (hx15 : k1 x15) (hx16 : k1 x16) (hx17 : k1 x17) (hx18 : k1 x18) (o : Int32 × S), law_436 k35 v2 v3 v4 v5 v8 v10 q t0 = some o → Go PP m59 436 [.val (.ref 0), .val (.ref 1), .val (.int v2), .val (.int v3), .val (.int v4), .val (.int v5), x6, x7, .val (.long v8), .second, .val (.int v10), x11, x12, x13, x14, x15, x16, x17, x18] [] (some q, [(9, t0)]) (some (.int o.1), (some q, [(9, o.2)])) := by
  intro v2 v3 v4 v5 v8 v10 q t0 x6 x7 x11 x12 x13 x14 x15 x16 x17 x18 hx6 hx7 hx11 hx12 hx13 hx14 hx15 hx16 hx17 hx18 o hf
  unfold law_436 at hf
  refine go_goto (pc := 436) (pc' := 650) d59_436 j_436_214 ?_
  exact law_650_ok hk35 v2 v3 v4 v5 v8 v10 q t0 x6 x7 x11 x12 x13 x14 x15 x16 x17 x18 hx6 hx7 hx11 hx12 hx13 hx14 hx15 hx16 hx17 hx18 _ hf
set_option maxRecDepth 65536 in
set_option maxHeartbeats 4000000 in
theorem law_416_ok {k35 : Int32 → Int32 → Int32 → Int32 → Int32 → Int32 → Int64 → Int32 → List Int32 → S → Option (Int32 × S)} (hk35 : T_law_35 k35) : ∀ (v2 : Int32) (v3 : Int32) (v4 : Int32) (v5 : Int32) (v6 : Int32) (v7 : Int32) (v8 : Int64) (v10 : Int32) (q : List Int32) (t0 : S) (x11 : Slot) (x12 : Slot) (x13 : Slot) (x14 : Slot) (x15 : Slot) (x16 : Slot) (x17 : Slot) (x18 : Slot) (hx11 : k1 x11) (hx12 : k1 x12) (hx13 : k1 x13) (hx14 : k1 x14) (hx15 : k1 x15) (hx16 : k1 x16) (hx17 : k1 x17) (hx18 : k1 x18) (o : Int32 × S), law_416 k35 v2 v3 v4 v5 v6 v7 v8 v10 q t0 = some o → Go PP m59 416 [.val (.ref 0), .val (.ref 1), .val (.int v2), .val (.int v3), .val (.int v4), .val (.int v5), .val (.int v6), .val (.int v7), .val (.long v8), .second, .val (.int v10), x11, x12, x13, x14, x15, x16, x17, x18] [] (some q, [(9, t0)]) (some (.int o.1), (some q, [(9, o.2)])) := by
  intro v2 v3 v4 v5 v6 v7 v8 v10 q t0 x11 x12 x13 x14 x15 x16 x17 x18 hx11 hx12 hx13 hx14 hx15 hx16 hx17 hx18 o hf
  unfold law_416 at hf
  refine go_aloadN (pc := 416) d59_416 rfl ?_
  refine go_virt (pc := 417) (i := 0) (as := []) (rest := []) (w' := (some q, [(9, t0)])) lk_1_17 pd_30 rfl oid_0 rfl rfl rfl rfl rfl rfl ⟨rfl, rfl, rfl, rfl, rfl⟩ d59_417 (c_k_quarantineCount t0) ?_
  refine go_iload (pc := 420) d59_420 rfl ?_
  by_cases h1 : (k_quarantineCount t0) = v6
  · replace hf := (if_pos h1).symm.trans hf
    refine go_icN (pc := 422) d59_422 (XT.ii_ne_f h1) ?_
    refine go_aloadN (pc := 425) d59_425 rfl ?_
    refine go_virt (pc := 426) (i := 0) (as := []) (rest := []) (w' := (some q, [(9, t0)])) lk_1_21 pd_31 rfl oid_0 rfl rfl rfl rfl rfl rfl ⟨rfl, rfl, rfl, rfl, rfl⟩ d59_426 (c_k_quarantineBytes t0) ?_
    refine go_iload (pc := 429) d59_429 rfl ?_
    by_cases h2 : (k_quarantineBytes t0) = v7
    · replace hf := (if_pos h2).symm.trans hf
      refine go_icY (pc := 431) (pc' := 436) d59_431 (XT.ii_eq_t h2) j_431_5 ?_
      exact law_436_ok hk35 v2 v3 v4 v5 v8 v10 q t0 (.val (.int v6)) (.val (.int v7)) x11 x12 x13 x14 x15 x16 x17 x18 (Or.inr ⟨_, rfl, rfl⟩) (Or.inr ⟨_, rfl, rfl⟩) hx11 hx12 hx13 hx14 hx15 hx16 hx17 hx18 _ hf
    · replace hf := (if_neg h2).symm.trans hf
      refine go_icN (pc := 431) d59_431 (XT.ii_eq_f h2) ?_
      refine go_iconst (pc := 434) d59_434 ci_0 ?_
      cases hf
      exact go_zret (pc := 435) rfl d59_435 (show (0 : Int32) = nar .boolean (0 : Int32) by decide)
  · replace hf := (if_neg h1).symm.trans hf
    refine go_icY (pc := 422) (pc' := 434) d59_422 (XT.ii_ne_t h1) j_422_12 ?_
    refine go_iconst (pc := 434) d59_434 ci_0 ?_
    cases hf
    exact go_zret (pc := 435) rfl d59_435 (show (0 : Int32) = nar .boolean (0 : Int32) by decide)
set_option maxRecDepth 65536 in
set_option maxHeartbeats 4000000 in
theorem law_399_ok {k35 : Int32 → Int32 → Int32 → Int32 → Int32 → Int32 → Int64 → Int32 → List Int32 → S → Option (Int32 × S)} (hk35 : T_law_35 k35) : ∀ (v2 : Int32) (v3 : Int32) (v4 : Int32) (v5 : Int32) (v8 : Int64) (v10 : Int32) (q : List Int32) (t0 : S) (x6 : Slot) (x7 : Slot) (x11 : Slot) (x12 : Slot) (x13 : Slot) (x14 : Slot) (x15 : Slot) (x16 : Slot) (x17 : Slot) (x18 : Slot) (hx6 : k1 x6) (hx7 : k1 x7) (hx11 : k1 x11) (hx12 : k1 x12) (hx13 : k1 x13) (hx14 : k1 x14) (hx15 : k1 x15) (hx16 : k1 x16) (hx17 : k1 x17) (hx18 : k1 x18) (o : Int32 × S), law_399 k35 v2 v3 v4 v5 v8 v10 q t0 = some o → Go PP m59 399 [.val (.ref 0), .val (.ref 1), .val (.int v2), .val (.int v3), .val (.int v4), .val (.int v5), x6, x7, .val (.long v8), .second, .val (.int v10), x11, x12, x13, x14, x15, x16, x17, x18] [] (some q, [(9, t0)]) (some (.int o.1), (some q, [(9, o.2)])) := by
  intro v2 v3 v4 v5 v8 v10 q t0 x6 x7 x11 x12 x13 x14 x15 x16 x17 x18 hx6 hx7 hx11 hx12 hx13 hx14 hx15 hx16 hx17 hx18 o hf
  unfold law_399 at hf
  refine go_goto (pc := 399) (pc' := 436) d59_399 j_399_37 ?_
  exact law_436_ok hk35 v2 v3 v4 v5 v8 v10 q t0 x6 x7 x11 x12 x13 x14 x15 x16 x17 x18 hx6 hx7 hx11 hx12 hx13 hx14 hx15 hx16 hx17 hx18 _ hf
set_option maxRecDepth 65536 in
set_option maxHeartbeats 4000000 in
theorem law_305_ok {k35 : Int32 → Int32 → Int32 → Int32 → Int32 → Int32 → Int64 → Int32 → List Int32 → S → Option (Int32 × S)} (hk35 : T_law_35 k35) : ∀ (v2 : Int32) (v3 : Int32) (v4 : Int32) (v5 : Int32) (v6 : Int32) (v7 : Int32) (v8 : Int64) (v10 : Int32) (p0 : Int32) (q : List Int32) (t0 : S) (x11 : Slot) (x12 : Slot) (x13 : Slot) (x14 : Slot) (x15 : Slot) (x16 : Slot) (x17 : Slot) (x18 : Slot) (hx11 : k1 x11) (hx12 : k1 x12) (hx13 : k1 x13) (hx14 : k1 x14) (hx15 : k1 x15) (hx16 : k1 x16) (hx17 : k1 x17) (hx18 : k1 x18) (o : Int32 × S), law_305 k35 v2 v3 v4 v5 v6 v7 v8 v10 p0 q t0 = some o → Go PP m59 305 [.val (.ref 0), .val (.ref 1), .val (.int v2), .val (.int v3), .val (.int v4), .val (.int v5), .val (.int v6), .val (.int v7), .val (.long v8), .second, .val (.int v10), x11, x12, x13, x14, x15, x16, x17, x18] [.int p0] (some q, [(9, t0)]) (some (.int o.1), (some q, [(9, o.2)])) := by
  intro v2 v3 v4 v5 v6 v7 v8 v10 p0 q t0 x11 x12 x13 x14 x15 x16 x17 x18 hx11 hx12 hx13 hx14 hx15 hx16 hx17 hx18 o hf
  unfold law_305 at hf
  refine go_istore (pc := 305) (L' := [.val (.ref 0), .val (.ref 1), .val (.int v2), .val (.int v3), .val (.int v4), .val (.int v5), .val (.int v6), .val (.int v7), .val (.long v8), .second, .val (.int v10), x11, x12, x13, x14, .val (.int p0), x16, x17, x18]) d59_305 (stx rfl hx15 rfl) (go_aloadN (pc := 307) d59_307 rfl (go_iload (pc := 308) d59_308 rfl ?_))
  obtain ⟨r310, e1, hf⟩ := Option.bind_eq_some_iff.mp hf
  refine go_virt (pc := 310) (i := 0) (as := [.int p0]) (rest := []) (w' := (some q, [(9, r310.2)])) lk_1_33 pd_41 rfl oid_0 rfl rfl rfl rfl rfl rfl ⟨rfl, rfl, rfl, rfl, rfl⟩ d59_310 (c_k_free p0 t0 _ e1) ?_
  refine go_istore (pc := 313) (L' := [.val (.ref 0), .val (.ref 1), .val (.int v2), .val (.int v3), .val (.int v4), .val (.int v5), .val (.int v6), .val (.int v7), .val (.long v8), .second, .val (.int v10), x11, x12, x13, x14, .val (.int p0), .val (.int r310.1), x17, x18]) d59_313 (stx rfl hx16 rfl) (go_iload (pc := 315) d59_315 rfl ?_)
  by_cases h2 : r310.1 = 0
  · replace hf := (if_pos h2).symm.trans hf
    refine go_ifN (pc := 317) d59_317 (XT.i0_ne_f h2) ?_
    refine go_iinc (pc := 320) (L' := [.val (.ref 0), .val (.ref 1), .val (.int (v2 + (-1 : Int32))), .val (.int v3), .val (.int v4), .val (.int v5), .val (.int v6), .val (.int v7), .val (.long v8), .second, .val (.int v10), x11, x12, x13, x14, .val (.int p0), .val (.int r310.1), x17, x18]) d59_320 rfl ci_m1 rfl (go_aloadN (pc := 323) d59_323 rfl (go_iload (pc := 324) d59_324 rfl (go_bipush (pc := 326) d59_326 cb_8 (go_idiv (pc := 328) d59_328 (by decide) ?_))))
    obtain ⟨r329, e5, hf⟩ := Option.bind_eq_some_iff.mp hf
    refine go_virt (pc := 329) (i := 0) (as := [.int (p0 / (8 : Int32))]) (rest := []) (w' := (some q, [(9, r310.2)])) lk_1_30 pd_36 rfl oid_0 rfl rfl rfl rfl rfl rfl ⟨rfl, rfl, rfl, rfl, rfl⟩ d59_329 (c_k_shadow (p0 / (8 : Int32)) r310.2 _ e5) ?_
    refine go_istore (pc := 332) (L' := [.val (.ref 0), .val (.ref 1), .val (.int (v2 + (-1 : Int32))), .val (.int v3), .val (.int v4), .val (.int v5), .val (.int v6), .val (.int v7), .val (.long v8), .second, .val (.int v10), x11, x12, x13, x14, .val (.int p0), .val (.int r310.1), .val (.int r329), x18]) d59_332 (stx rfl hx17 rfl) (go_aloadN (pc := 334) d59_334 rfl (go_iload (pc := 335) d59_335 rfl ?_))
    obtain ⟨r337, e6, hf⟩ := Option.bind_eq_some_iff.mp hf
    refine go_virt (pc := 337) (i := 0) (as := [.int p0]) (rest := []) (w' := (some q, [(9, r310.2)])) lk_1_27 pd_35 rfl oid_0 rfl rfl rfl rfl rfl rfl ⟨rfl, rfl, rfl, rfl, rfl⟩ d59_337 (c_k_userSize p0 r310.2 _ e6) ?_
    refine go_iconst (pc := 340) d59_340 ci_m1 ?_
    by_cases h7 : r337 = (-1 : Int32)
    · replace hf := (if_pos h7).symm.trans hf
      refine go_icN (pc := 341) d59_341 (XT.ii_ne_f h7) ?_
      refine go_aloadN (pc := 344) d59_344 rfl ?_
      refine go_virt (pc := 345) (i := 0) (as := []) (rest := []) (w' := (some q, [(9, r310.2)])) lk_1_17 pd_30 rfl oid_0 rfl rfl rfl rfl rfl rfl ⟨rfl, rfl, rfl, rfl, rfl⟩ d59_345 (c_k_quarantineCount r310.2) ?_
      refine go_iload (pc := 348) d59_348 rfl (go_iconst (pc := 350) d59_350 ci_1 (go_iadd (pc := 351) d59_351 ?_))
      by_cases h8 : (v6 + (1 : Int32)) < (k_quarantineCount r310.2)
      · replace hf := (if_pos h8).symm.trans hf
        refine go_icN (pc := 352) d59_352 (XT.ii_le_f h8) ?_
        refine go_iconst (pc := 355) d59_355 ci_0 ?_
        cases hf
        exact go_zret (pc := 356) rfl d59_356 (show (0 : Int32) = nar .boolean (0 : Int32) by decide)
      · replace hf := (if_neg h8).symm.trans hf
        refine go_icY (pc := 352) (pc' := 357) d59_352 (XT.ii_le_t h8) j_352_5 ?_
        refine go_iload (pc := 357) d59_357 rfl (go_sipush (pc := 359) d59_359 cs_253 ?_)
        by_cases h9 : r329 = (253 : Int32)
        · replace hf := (if_pos h9).symm.trans hf
          refine go_icN (pc := 362) d59_362 (XT.ii_ne_f h9) ?_
          refine go_aloadN (pc := 365) d59_365 rfl ?_
          refine go_virt (pc := 366) (i := 0) (as := []) (rest := []) (w' := (some q, [(9, r310.2)])) lk_1_17 pd_30 rfl oid_0 rfl rfl rfl rfl rfl rfl ⟨rfl, rfl, rfl, rfl, rfl⟩ d59_366 (c_k_quarantineCount r310.2) ?_
          refine go_iconst (pc := 369) d59_369 ci_1 (go_isub (pc := 370) d59_370 (go_istore (pc := 371) (L' := [.val (.ref 0), .val (.ref 1), .val (.int (v2 + (-1 : Int32))), .val (.int v3), .val (.int v4), .val (.int v5), .val (.int v6), .val (.int v7), .val (.long v8), .second, .val (.int v10), x11, x12, x13, x14, .val (.int p0), .val (.int r310.1), .val (.int r329), .val (.int ((k_quarantineCount r310.2) - (1 : Int32)))]) d59_371 (stx rfl hx18 rfl) (go_aloadN (pc := 373) d59_373 rfl (go_iload (pc := 374) d59_374 rfl ?_))))
          obtain ⟨r376, e11, hf⟩ := Option.bind_eq_some_iff.mp hf
          refine go_virt (pc := 376) (i := 0) (as := [.int ((k_quarantineCount r310.2) - (1 : Int32))]) (rest := []) (w' := (some q, [(9, r310.2)])) lk_1_36 pd_42 rfl oid_0 rfl rfl rfl rfl rfl rfl ⟨rfl, rfl, rfl, rfl, rfl⟩ d59_376 (c_k_quarantineAt ((k_quarantineCount r310.2) - (1 : Int32)) r310.2 _ e11) ?_
          refine go_iload (pc := 379) d59_379 rfl ?_
          by_cases h12 : r376 = p0
          · replace hf := (if_pos h12).symm.trans hf
            refine go_icY (pc := 381) (pc' := 386) d59_381 (XT.ii_eq_t h12) j_381_5 ?_
            refine go_goto (pc := 386) (pc' := 399) d59_386 j_386_13 ?_
            exact law_399_ok hk35 (v2 + (-1 : Int32)) v3 v4 v5 v8 v10 q r310.2 (.val (.int v6)) (.val (.int v7)) x11 x12 x13 x14 (.val (.int p0)) (.val (.int r310.1)) (.val (.int r329)) (.val (.int ((k_quarantineCount r310.2) - (1 : Int32)))) (Or.inr ⟨_, rfl, rfl⟩) (Or.inr ⟨_, rfl, rfl⟩) hx11 hx12 hx13 hx14 (Or.inr ⟨_, rfl, rfl⟩) (Or.inr ⟨_, rfl, rfl⟩) (Or.inr ⟨_, rfl, rfl⟩) (Or.inr ⟨_, rfl, rfl⟩) _ hf
          · replace hf := (if_neg h12).symm.trans hf
            refine go_icN (pc := 381) d59_381 (XT.ii_eq_f h12) ?_
            refine go_iconst (pc := 384) d59_384 ci_0 ?_
            cases hf
            exact go_zret (pc := 385) rfl d59_385 (show (0 : Int32) = nar .boolean (0 : Int32) by decide)
        · replace hf := (if_neg h9).symm.trans hf
          refine go_icY (pc := 362) (pc' := 389) d59_362 (XT.ii_ne_t h9) j_362_27 ?_
          refine go_iload (pc := 389) d59_389 rfl (go_sipush (pc := 391) d59_391 cs_254 ?_)
          by_cases h10 : r329 = (254 : Int32)
          · replace hf := (if_pos h10).symm.trans hf
            refine go_icY (pc := 394) (pc' := 399) d59_394 (XT.ii_eq_t h10) j_394_5 ?_
            exact law_399_ok hk35 (v2 + (-1 : Int32)) v3 v4 v5 v8 v10 q r310.2 (.val (.int v6)) (.val (.int v7)) x11 x12 x13 x14 (.val (.int p0)) (.val (.int r310.1)) (.val (.int r329)) x18 (Or.inr ⟨_, rfl, rfl⟩) (Or.inr ⟨_, rfl, rfl⟩) hx11 hx12 hx13 hx14 (Or.inr ⟨_, rfl, rfl⟩) (Or.inr ⟨_, rfl, rfl⟩) (Or.inr ⟨_, rfl, rfl⟩) hx18 _ hf
          · replace hf := (if_neg h10).symm.trans hf
            refine go_icN (pc := 394) d59_394 (XT.ii_eq_f h10) ?_
            refine go_iconst (pc := 397) d59_397 ci_0 ?_
            cases hf
            exact go_zret (pc := 398) rfl d59_398 (show (0 : Int32) = nar .boolean (0 : Int32) by decide)
    · replace hf := (if_neg h7).symm.trans hf
      refine go_icY (pc := 341) (pc' := 355) d59_341 (XT.ii_ne_t h7) j_341_14 ?_
      refine go_iconst (pc := 355) d59_355 ci_0 ?_
      cases hf
      exact go_zret (pc := 356) rfl d59_356 (show (0 : Int32) = nar .boolean (0 : Int32) by decide)
  · replace hf := (if_neg h2).symm.trans hf
    refine go_ifY (pc := 317) (pc' := 402) d59_317 (XT.i0_ne_t h2) j_317_85 ?_
    refine go_iload (pc := 402) d59_402 rfl (go_iconst (pc := 404) d59_404 ci_1 ?_)
    by_cases h3 : r310.1 = (1 : Int32)
    · replace hf := (if_pos h3).symm.trans hf
      refine go_icY (pc := 405) (pc' := 416) d59_405 (XT.ii_eq_t h3) j_405_11 ?_
      exact law_416_ok hk35 v2 v3 v4 v5 v6 v7 v8 v10 q r310.2 x11 x12 x13 x14 (.val (.int p0)) (.val (.int r310.1)) x17 x18 hx11 hx12 hx13 hx14 (Or.inr ⟨_, rfl, rfl⟩) (Or.inr ⟨_, rfl, rfl⟩) hx17 hx18 _ hf
    · replace hf := (if_neg h3).symm.trans hf
      refine go_icN (pc := 405) d59_405 (XT.ii_eq_f h3) ?_
      refine go_iload (pc := 408) d59_408 rfl (go_iconst (pc := 410) d59_410 ci_2 ?_)
      by_cases h4 : r310.1 = (2 : Int32)
      · replace hf := (if_pos h4).symm.trans hf
        refine go_icY (pc := 411) (pc' := 416) d59_411 (XT.ii_eq_t h4) j_411_5 ?_
        exact law_416_ok hk35 v2 v3 v4 v5 v6 v7 v8 v10 q r310.2 x11 x12 x13 x14 (.val (.int p0)) (.val (.int r310.1)) x17 x18 hx11 hx12 hx13 hx14 (Or.inr ⟨_, rfl, rfl⟩) (Or.inr ⟨_, rfl, rfl⟩) hx17 hx18 _ hf
      · replace hf := (if_neg h4).symm.trans hf
        refine go_icN (pc := 411) d59_411 (XT.ii_eq_f h4) ?_
        refine go_iconst (pc := 414) d59_414 ci_0 ?_
        cases hf
        exact go_zret (pc := 415) rfl d59_415 (show (0 : Int32) = nar .boolean (0 : Int32) by decide)
set_option maxRecDepth 65536 in
set_option maxHeartbeats 4000000 in
theorem law_273_ok {k35 : Int32 → Int32 → Int32 → Int32 → Int32 → Int32 → Int64 → Int32 → List Int32 → S → Option (Int32 × S)} (hk35 : T_law_35 k35) : ∀ (v2 : Int32) (v3 : Int32) (v4 : Int32) (v5 : Int32) (v8 : Int64) (v10 : Int32) (q : List Int32) (t0 : S) (x6 : Slot) (x7 : Slot) (x11 : Slot) (x12 : Slot) (x13 : Slot) (x14 : Slot) (x15 : Slot) (x16 : Slot) (x17 : Slot) (x18 : Slot) (hx6 : k1 x6) (hx7 : k1 x7) (hx11 : k1 x11) (hx12 : k1 x12) (hx13 : k1 x13) (hx14 : k1 x14) (hx15 : k1 x15) (hx16 : k1 x16) (hx17 : k1 x17) (hx18 : k1 x18) (o : Int32 × S), law_273 k35 v2 v3 v4 v5 v8 v10 q t0 = some o → Go PP m59 273 [.val (.ref 0), .val (.ref 1), .val (.int v2), .val (.int v3), .val (.int v4), .val (.int v5), x6, x7, .val (.long v8), .second, .val (.int v10), x11, x12, x13, x14, x15, x16, x17, x18] [] (some q, [(9, t0)]) (some (.int o.1), (some q, [(9, o.2)])) := by
  intro v2 v3 v4 v5 v8 v10 q t0 x6 x7 x11 x12 x13 x14 x15 x16 x17 x18 hx6 hx7 hx11 hx12 hx13 hx14 hx15 hx16 hx17 hx18 o hf
  unfold law_273 at hf
  refine go_goto (pc := 273) (pc' := 650) d59_273 j_273_377 ?_
  exact law_650_ok hk35 v2 v3 v4 v5 v8 v10 q t0 x6 x7 x11 x12 x13 x14 x15 x16 x17 x18 hx6 hx7 hx11 hx12 hx13 hx14 hx15 hx16 hx17 hx18 _ hf
set_option maxRecDepth 65536 in
set_option maxHeartbeats 4000000 in
theorem law_112_ok {k35 : Int32 → Int32 → Int32 → Int32 → Int32 → Int32 → Int64 → Int32 → List Int32 → S → Option (Int32 × S)} (hk35 : T_law_35 k35) : ∀ (v2 : Int32) (v3 : Int32) (v4 : Int32) (v5 : Int32) (v8 : Int64) (v10 : Int32) (v16 : Int32) (q : List Int32) (t0 : S) (x6 : Slot) (x7 : Slot) (x11 : Slot) (x12 : Slot) (x13 : Slot) (x14 : Slot) (x15 : Slot) (x17 : Slot) (x18 : Slot) (hx6 : k1 x6) (hx7 : k1 x7) (hx11 : k1 x11) (hx12 : k1 x12) (hx13 : k1 x13) (hx14 : k1 x14) (hx15 : k1 x15) (hx17 : k1 x17) (hx18 : k1 x18) (o : Int32 × S), law_112 k35 v2 v3 v4 v5 v8 v10 v16 q t0 = some o → Go PP m59 112 [.val (.ref 0), .val (.ref 1), .val (.int v2), .val (.int v3), .val (.int v4), .val (.int v5), x6, x7, .val (.long v8), .second, .val (.int v10), x11, x12, x13, x14, x15, .val (.int v16), x17, x18] [] (some q, [(9, t0)]) (some (.int o.1), (some q, [(9, o.2)])) := by
  intro v2 v3 v4 v5 v8 v10 v16 q t0 x6 x7 x11 x12 x13 x14 x15 x17 x18 hx6 hx7 hx11 hx12 hx13 hx14 hx15 hx17 hx18 o hf
  unfold law_112 at hf
  refine go_iload (pc := 112) d59_112 rfl (go_iconst (pc := 114) d59_114 ci_m1 ?_)
  by_cases h1 : v16 = (-1 : Int32)
  · replace hf := (if_pos h1).symm.trans hf
    refine go_icY (pc := 115) (pc' := 273) d59_115 (XT.ii_eq_t h1) j_115_158 ?_
    exact law_273_ok hk35 v2 v3 v4 v5 v8 v10 q t0 x6 x7 x11 x12 x13 x14 x15 (.val (.int v16)) x17 x18 hx6 hx7 hx11 hx12 hx13 hx14 hx15 (Or.inr ⟨_, rfl, rfl⟩) hx17 hx18 _ hf
  · replace hf := (if_neg h1).symm.trans hf
    refine go_icN (pc := 115) d59_115 (XT.ii_eq_f h1) ?_
    refine go_iconst (pc := 118) d59_118 ci_0 ?_
    cases hf
    exact go_zret (pc := 119) rfl d59_119 (show (0 : Int32) = nar .boolean (0 : Int32) by decide)
set_option maxRecDepth 65536 in
set_option maxHeartbeats 4000000 in
theorem law_35_ok  : ∀ (n : Nat) (v2 : Int32) (v3 : Int32) (v4 : Int32) (v5 : Int32) (v6 : Int32) (v7 : Int32) (v8 : Int64) (v10 : Int32) (q : List Int32) (t0 : S) (x11 : Slot) (x12 : Slot) (x13 : Slot) (x14 : Slot) (x15 : Slot) (x16 : Slot) (x17 : Slot) (x18 : Slot) (hx11 : k1 x11) (hx12 : k1 x12) (hx13 : k1 x13) (hx14 : k1 x14) (hx15 : k1 x15) (hx16 : k1 x16) (hx17 : k1 x17) (hx18 : k1 x18) (o : Int32 × S), law_35 n v2 v3 v4 v5 v6 v7 v8 v10 q t0 = some o → Go PP m59 35 [.val (.ref 0), .val (.ref 1), .val (.int v2), .val (.int v3), .val (.int v4), .val (.int v5), .val (.int v6), .val (.int v7), .val (.long v8), .second, .val (.int v10), x11, x12, x13, x14, x15, x16, x17, x18] [] (some q, [(9, t0)]) (some (.int o.1), (some q, [(9, o.2)])) := by
  intro n
  induction n with
  | zero => intro v2 v3 v4 v5 v6 v7 v8 v10 q t0 x11 x12 x13 x14 x15 x16 x17 x18 hx11 hx12 hx13 hx14 hx15 hx16 hx17 hx18 o hf; exact nomatch hf
  | succ n ih =>
    intro v2 v3 v4 v5 v6 v7 v8 v10 q t0 x11 x12 x13 x14 x15 x16 x17 x18 hx11 hx12 hx13 hx14 hx15 hx16 hx17 hx18 o hf
    unfold law_35 at hf
    refine go_iload (pc := 35) d59_35 rfl (go_iconst (pc := 37) d59_37 ci_3 (go_iadd (pc := 38) d59_38 (go_aloadN (pc := 39) d59_39 rfl (go_slen (pc := 40) d59_40 ?_))))
    by_cases h1 : (v10 + (3 : Int32)) < q.length.toInt32
    · replace hf := (if_pos h1).symm.trans hf
      refine go_icN (pc := 41) d59_41 (XT.ii_ge_f h1) ?_
      refine go_aloadN (pc := 44) d59_44 rfl (go_iload (pc := 45) d59_45 rfl ?_)
      obtain ⟨a47, e2, hf⟩ := Option.bind_eq_some_iff.mp hf
      refine go_sload (pc := 47) e2 d59_47 ?_
      refine go_iconst (pc := 48) d59_48 ci_3 (go_iand (pc := 49) d59_49 (go_istore (pc := 50) (L' := [.val (.ref 0), .val (.ref 1), .val (.int v2), .val (.int v3), .val (.int v4), .val (.int v5), .val (.int v6), .val (.int v7), .val (.long v8), .second, .val (.int v10), .val (.int (a47 &&& (3 : Int32))), x12, x13, x14, x15, x16, x17, x18]) d59_50 (stx rfl hx11 rfl) (go_aloadN (pc := 52) d59_52 rfl (go_iload (pc := 53) d59_53 rfl (go_iconst (pc := 55) d59_55 ci_1 (go_iadd (pc := 56) d59_56 ?_))))))
      obtain ⟨a57, e3, hf⟩ := Option.bind_eq_some_iff.mp hf
      refine go_sload (pc := 57) e3 d59_57 ?_
      refine go_istore (pc := 58) (L' := [.val (.ref 0), .val (.ref 1), .val (.int v2), .val (.int v3), .val (.int v4), .val (.int v5), .val (.int v6), .val (.int v7), .val (.long v8), .second, .val (.int v10), .val (.int (a47 &&& (3 : Int32))), .val (.int a57), x13, x14, x15, x16, x17, x18]) d59_58 (stx rfl hx12 rfl) (go_aloadN (pc := 60) d59_60 rfl (go_iload (pc := 61) d59_61 rfl (go_iconst (pc := 63) d59_63 ci_2 (go_iadd (pc := 64) d59_64 ?_))))
      obtain ⟨a65, e4, hf⟩ := Option.bind_eq_some_iff.mp hf
      refine go_sload (pc := 65) e4 d59_65 ?_
      refine go_istore (pc := 66) (L' := [.val (.ref 0), .val (.ref 1), .val (.int v2), .val (.int v3), .val (.int v4), .val (.int v5), .val (.int v6), .val (.int v7), .val (.long v8), .second, .val (.int v10), .val (.int (a47 &&& (3 : Int32))), .val (.int a57), .val (.int a65), x14, x15, x16, x17, x18]) d59_66 (stx rfl hx13 rfl) (go_aloadN (pc := 68) d59_68 rfl (go_iload (pc := 69) d59_69 rfl (go_iconst (pc := 71) d59_71 ci_3 (go_iadd (pc := 72) d59_72 ?_))))
      obtain ⟨a73, e5, hf⟩ := Option.bind_eq_some_iff.mp hf
      refine go_sload (pc := 73) e5 d59_73 ?_
      refine go_istore (pc := 74) (L' := [.val (.ref 0), .val (.ref 1), .val (.int v2), .val (.int v3), .val (.int v4), .val (.int v5), .val (.int v6), .val (.int v7), .val (.long v8), .second, .val (.int v10), .val (.int (a47 &&& (3 : Int32))), .val (.int a57), .val (.int a65), .val (.int a73), x15, x16, x17, x18]) d59_74 (stx rfl hx14 rfl) (go_iload (pc := 76) d59_76 rfl ?_)
      by_cases h6 : (a47 &&& (3 : Int32)) = 0
      · replace hf := (if_pos h6).symm.trans hf
        refine go_ifN (pc := 78) d59_78 (XT.i0_ne_f h6) ?_
        refine go_iload (pc := 81) d59_81 rfl (go_bipush (pc := 83) d59_83 cb_127 (go_iand (pc := 85) d59_85 (go_bipush (pc := 86) d59_86 cb_67 (go_irem (pc := 88) d59_88 (by decide) (go_istore (pc := 89) (L' := [.val (.ref 0), .val (.ref 1), .val (.int v2), .val (.int v3), .val (.int v4), .val (.int v5), .val (.int v6), .val (.int v7), .val (.long v8), .second, .val (.int v10), .val (.int (a47 &&& (3 : Int32))), .val (.int a57), .val (.int a65), .val (.int a73), .val (.int ((a57 &&& (127 : Int32)) % (67 : Int32))), x16, x17, x18]) d59_89 (stx rfl hx15 rfl) (go_aloadN (pc := 91) d59_91 rfl (go_iload (pc := 92) d59_92 rfl ?_)))))))
        obtain ⟨r94, e13, hf⟩ := Option.bind_eq_some_iff.mp hf
        refine go_virt (pc := 94) (i := 0) (as := [.int ((a57 &&& (127 : Int32)) % (67 : Int32))]) (rest := []) (w' := (some q, [(9, r94.2)])) lk_1_13 pd_29 rfl oid_0 rfl rfl rfl rfl rfl rfl ⟨rfl, rfl, rfl, rfl, rfl⟩ d59_94 (c_k_alloc ((a57 &&& (127 : Int32)) % (67 : Int32)) t0 _ e13) ?_
        refine go_istore (pc := 97) (L' := [.val (.ref 0), .val (.ref 1), .val (.int v2), .val (.int v3), .val (.int v4), .val (.int v5), .val (.int v6), .val (.int v7), .val (.long v8), .second, .val (.int v10), .val (.int (a47 &&& (3 : Int32))), .val (.int a57), .val (.int a65), .val (.int a73), .val (.int ((a57 &&& (127 : Int32)) % (67 : Int32))), .val (.int r94.1), x17, x18]) d59_97 (stx rfl hx16 rfl) (go_iload (pc := 99) d59_99 rfl (go_iconst (pc := 101) d59_101 ci_1 ?_))
        by_cases h14 : ((a57 &&& (127 : Int32)) % (67 : Int32)) < (1 : Int32)
        · replace hf := (if_pos h14).symm.trans hf
          refine go_icY (pc := 102) (pc' := 112) d59_102 (XT.ii_lt_t h14) j_102_10 ?_
          exact law_112_ok ih v2 v3 v4 v5 v8 v10 r94.1 q r94.2 (.val (.int v6)) (.val (.int v7)) (.val (.int (a47 &&& (3 : Int32)))) (.val (.int a57)) (.val (.int a65)) (.val (.int a73)) (.val (.int ((a57 &&& (127 : Int32)) % (67 : Int32)))) x17 x18 (Or.inr ⟨_, rfl, rfl⟩) (Or.inr ⟨_, rfl, rfl⟩) (Or.inr ⟨_, rfl, rfl⟩) (Or.inr ⟨_, rfl, rfl⟩) (Or.inr ⟨_, rfl, rfl⟩) (Or.inr ⟨_, rfl, rfl⟩) (Or.inr ⟨_, rfl, rfl⟩) hx17 hx18 _ hf
        · replace hf := (if_neg h14).symm.trans hf
          refine go_icN (pc := 102) d59_102 (XT.ii_lt_f h14) ?_
          refine go_iload (pc := 105) d59_105 rfl (go_bipush (pc := 107) d59_107 cb_64 ?_)
          by_cases h15 : (64 : Int32) < ((a57 &&& (127 : Int32)) % (67 : Int32))
          · replace hf := (if_pos h15).symm.trans hf
            refine go_icN (pc := 109) d59_109 (XT.ii_le_f h15) ?_
            exact law_112_ok ih v2 v3 v4 v5 v8 v10 r94.1 q r94.2 (.val (.int v6)) (.val (.int v7)) (.val (.int (a47 &&& (3 : Int32)))) (.val (.int a57)) (.val (.int a65)) (.val (.int a73)) (.val (.int ((a57 &&& (127 : Int32)) % (67 : Int32)))) x17 x18 (Or.inr ⟨_, rfl, rfl⟩) (Or.inr ⟨_, rfl, rfl⟩) (Or.inr ⟨_, rfl, rfl⟩) (Or.inr ⟨_, rfl, rfl⟩) (Or.inr ⟨_, rfl, rfl⟩) (Or.inr ⟨_, rfl, rfl⟩) (Or.inr ⟨_, rfl, rfl⟩) hx17 hx18 _ hf
          · replace hf := (if_neg h15).symm.trans hf
            refine go_icY (pc := 109) (pc' := 120) d59_109 (XT.ii_le_t h15) j_109_11 ?_
            refine go_iload (pc := 120) d59_120 rfl (go_bipush (pc := 122) d59_122 cb_m2 ?_)
            by_cases h16 : r94.1 = (-2 : Int32)
            · replace hf := (if_pos h16).symm.trans hf
              refine go_icN (pc := 124) d59_124 (XT.ii_ne_f h16) ?_
              refine go_aloadN (pc := 127) d59_127 rfl ?_
              refine go_virt (pc := 128) (i := 0) (as := []) (rest := []) (w' := (some q, [(9, r94.2)])) lk_1_17 pd_30 rfl oid_0 rfl rfl rfl rfl rfl rfl ⟨rfl, rfl, rfl, rfl, rfl⟩ d59_128 (c_k_quarantineCount r94.2) ?_
              by_cases h28 : (k_quarantineCount r94.2) = 0
              · replace hf := (if_pos h28).symm.trans hf
                refine go_ifN (pc := 131) d59_131 (XT.i0_ne_f h28) ?_
                refine go_aloadN (pc := 134) d59_134 rfl ?_
                refine go_virt (pc := 135) (i := 0) (as := []) (rest := []) (w' := (some q, [(9, r94.2)])) lk_1_21 pd_31 rfl oid_0 rfl rfl rfl rfl rfl rfl ⟨rfl, rfl, rfl, rfl, rfl⟩ d59_135 (c_k_quarantineBytes r94.2) ?_
                by_cases h29 : (k_quarantineBytes r94.2) = 0
                · replace hf := (if_pos h29).symm.trans hf
                  refine go_ifY (pc := 138) (pc' := 143) d59_138 (XT.i0_eq_t h29) j_138_5 ?_
                  refine go_aloadN (pc := 143) d59_143 rfl ?_
                  obtain ⟨r144, e30, hf⟩ := Option.bind_eq_some_iff.mp hf
                  refine go_virt (pc := 144) (i := 0) (as := []) (rest := []) (w' := (some q, [(9, r94.2)])) lk_1_24 pd_32 rfl oid_0 rfl rfl rfl rfl rfl rfl ⟨rfl, rfl, rfl, rfl, rfl⟩ d59_144 (c_k_largestFreeRun r94.2 _ e30) ?_
                  refine go_iconst (pc := 147) d59_147 ci_2 (go_iload (pc := 148) d59_148 rfl (go_bipush (pc := 150) d59_150 cb_7 (go_iadd (pc := 152) d59_152 (go_bipush (pc := 153) d59_153 cb_8 (go_idiv (pc := 155) d59_155 (by decide) (go_iadd (pc := 156) d59_156 ?_))))))
                  by_cases h31 : r144 < ((2 : Int32) + ((((a57 &&& (127 : Int32)) % (67 : Int32)) + (7 : Int32)) / (8 : Int32)))
                  · replace hf := (if_pos h31).symm.trans hf
                    refine go_icY (pc := 157) (pc' := 273) d59_157 (XT.ii_lt_t h31) j_157_116 ?_
                    exact law_273_ok ih v2 v3 v4 v5 v8 v10 q r94.2 (.val (.int v6)) (.val (.int v7)) (.val (.int (a47 &&& (3 : Int32)))) (.val (.int a57)) (.val (.int a65)) (.val (.int a73)) (.val (.int ((a57 &&& (127 : Int32)) % (67 : Int32)))) (.val (.int r94.1)) x17 x18 (Or.inr ⟨_, rfl, rfl⟩) (Or.inr ⟨_, rfl, rfl⟩) (Or.inr ⟨_, rfl, rfl⟩) (Or.inr ⟨_, rfl, rfl⟩) (Or.inr ⟨_, rfl, rfl⟩) (Or.inr ⟨_, rfl, rfl⟩) (Or.inr ⟨_, rfl, rfl⟩) (Or.inr ⟨_, rfl, rfl⟩) hx17 hx18 _ hf
                  · replace hf := (if_neg h31).symm.trans hf
                    refine go_icN (pc := 157) d59_157 (XT.ii_lt_f h31) ?_
                    refine go_iconst (pc := 160) d59_160 ci_0 ?_
                    cases hf
                    exact go_zret (pc := 161) rfl d59_161 (show (0 : Int32) = nar .boolean (0 : Int32) by decide)
                · replace hf := (if_neg h29).symm.trans hf
                  refine go_ifN (pc := 138) d59_138 (XT.i0_eq_f h29) ?_
                  refine go_iconst (pc := 141) d59_141 ci_0 ?_
                  cases hf
                  exact go_zret (pc := 142) rfl d59_142 (show (0 : Int32) = nar .boolean (0 : Int32) by decide)
              · replace hf := (if_neg h28).symm.trans hf
                refine go_ifY (pc := 131) (pc' := 141) d59_131 (XT.i0_ne_t h28) j_131_10 ?_
                refine go_iconst (pc := 141) d59_141 ci_0 ?_
                cases hf
                exact go_zret (pc := 142) rfl d59_142 (show (0 : Int32) = nar .boolean (0 : Int32) by decide)
            · replace hf := (if_neg h16).symm.trans hf
              refine go_icY (pc := 124) (pc' := 162) d59_124 (XT.ii_ne_t h16) j_124_38 ?_
              refine go_iload (pc := 162) d59_162 rfl (go_bipush (pc := 164) d59_164 cb_8 ?_)
              by_cases h17 : r94.1 < (8 : Int32)
              · replace hf := (if_pos h17).symm.trans hf
                refine go_icY (pc := 166) (pc' := 188) d59_166 (XT.ii_lt_t h17) j_166_22 ?_
                refine go_iconst (pc := 188) d59_188 ci_0 ?_
                cases hf
                exact go_zret (pc := 189) rfl d59_189 (show (0 : Int32) = nar .boolean (0 : Int32) by decide)
              · replace hf := (if_neg h17).symm.trans hf
                refine go_icN (pc := 166) d59_166 (XT.ii_lt_f h17) ?_
                refine go_iload (pc := 169) d59_169 rfl (go_bipush (pc := 171) d59_171 cb_8 (go_irem (pc := 173) d59_173 (by decide) ?_))
                by_cases h18 : (r94.1 % (8 : Int32)) = 0
                · replace hf := (if_pos h18).symm.trans hf
                  refine go_ifN (pc := 174) d59_174 (XT.i0_ne_f h18) ?_
                  refine go_aloadN (pc := 177) d59_177 rfl (go_iload (pc := 178) d59_178 rfl ?_)
                  obtain ⟨r180, e19, hf⟩ := Option.bind_eq_some_iff.mp hf
                  refine go_virt (pc := 180) (i := 0) (as := [.int r94.1]) (rest := []) (w' := (some q, [(9, r94.2)])) lk_1_27 pd_35 rfl oid_0 rfl rfl rfl rfl rfl rfl ⟨rfl, rfl, rfl, rfl, rfl⟩ d59_180 (c_k_userSize r94.1 r94.2 _ e19) ?_
                  refine go_iload (pc := 183) d59_183 rfl ?_
                  by_cases h20 : r180 = ((a57 &&& (127 : Int32)) % (67 : Int32))
                  · replace hf := (if_pos h20).symm.trans hf
                    refine go_icY (pc := 185) (pc' := 190) d59_185 (XT.ii_eq_t h20) j_185_5 ?_
                    refine go_iload (pc := 190) d59_190 rfl (go_bipush (pc := 192) d59_192 cb_8 (go_idiv (pc := 194) d59_194 (by decide) (go_iload (pc := 195) d59_195 rfl (go_bipush (pc := 197) d59_197 cb_7 (go_iadd (pc := 199) d59_199 (go_bipush (pc := 200) d59_200 cb_8 (go_idiv (pc := 202) d59_202 (by decide) ?_)))))))
                    refine go_iadd (pc := 203) d59_203 (go_iconst (pc := 204) d59_204 ci_1 (go_isub (pc := 205) d59_205 (go_istore (pc := 206) (L' := [.val (.ref 0), .val (.ref 1), .val (.int v2), .val (.int v3), .val (.int v4), .val (.int v5), .val (.int v6), .val (.int v7), .val (.long v8), .second, .val (.int v10), .val (.int (a47 &&& (3 : Int32))), .val (.int a57), .val (.int a65), .val (.int a73), .val (.int ((a57 &&& (127 : Int32)) % (67 : Int32))), .val (.int r94.1), .val (.int (((r94.1 / (8 : Int32)) + ((((a57 &&& (127 : Int32)) % (67 : Int32)) + (7 : Int32)) / (8 : Int32))) - (1 : Int32))), x18]) d59_206 (stx rfl hx17 rfl) (go_aloadN (pc := 208) d59_208 rfl (go_iload (pc := 209) d59_209 rfl (go_bipush (pc := 211) d59_211 cb_8 (go_idiv (pc := 213) d59_213 (by decide) ?_)))))))
                    refine go_iconst (pc := 214) d59_214 ci_1 (go_isub (pc := 215) d59_215 ?_)
                    obtain ⟨r216, e21, hf⟩ := Option.bind_eq_some_iff.mp hf
                    refine go_virt (pc := 216) (i := 0) (as := [.int ((r94.1 / (8 : Int32)) - (1 : Int32))]) (rest := []) (w' := (some q, [(9, r94.2)])) lk_1_30 pd_36 rfl oid_0 rfl rfl rfl rfl rfl rfl ⟨rfl, rfl, rfl, rfl, rfl⟩ d59_216 (c_k_shadow ((r94.1 / (8 : Int32)) - (1 : Int32)) r94.2 _ e21) ?_
                    refine go_sipush (pc := 219) d59_219 cs_250 ?_
                    by_cases h22 : r216 = (250 : Int32)
                    · replace hf := (if_pos h22).symm.trans hf
                      refine go_icN (pc := 222) d59_222 (XT.ii_ne_f h22) ?_
                      refine go_aloadN (pc := 225) d59_225 rfl (go_iload (pc := 226) d59_226 rfl ?_)
                      obtain ⟨r228, e23, hf⟩ := Option.bind_eq_some_iff.mp hf
                      refine go_virt (pc := 228) (i := 0) (as := [.int (((r94.1 / (8 : Int32)) + ((((a57 &&& (127 : Int32)) % (67 : Int32)) + (7 : Int32)) / (8 : Int32))) - (1 : Int32))]) (rest := []) (w' := (some q, [(9, r94.2)])) lk_1_30 pd_36 rfl oid_0 rfl rfl rfl rfl rfl rfl ⟨rfl, rfl, rfl, rfl, rfl⟩ d59_228 (c_k_shadow (((r94.1 / (8 : Int32)) + ((((a57 &&& (127 : Int32)) % (67 : Int32)) + (7 : Int32)) / (8 : Int32))) - (1 : Int32)) r94.2 _ e23) ?_
                      refine go_iload (pc := 231) d59_231 rfl (go_bipush (pc := 233) d59_233 cb_8 (go_irem (pc := 235) d59_235 (by decide) ?_))
                      by_cases h24 : r228 = (((a57 &&& (127 : Int32)) % (67 : Int32)) % (8 : Int32))
                      · replace hf := (if_pos h24).symm.trans hf
                        refine go_icY (pc := 236) (pc' := 241) d59_236 (XT.ii_eq_t h24) j_236_5 ?_
                        refine go_aloadN (pc := 241) d59_241 rfl (go_iload (pc := 242) d59_242 rfl (go_iconst (pc := 244) d59_244 ci_1 (go_iadd (pc := 245) d59_245 ?_)))
                        obtain ⟨r246, e25, hf⟩ := Option.bind_eq_some_iff.mp hf
                        refine go_virt (pc := 246) (i := 0) (as := [.int ((((r94.1 / (8 : Int32)) + ((((a57 &&& (127 : Int32)) % (67 : Int32)) + (7 : Int32)) / (8 : Int32))) - (1 : Int32)) + (1 : Int32))]) (rest := []) (w' := (some q, [(9, r94.2)])) lk_1_30 pd_36 rfl oid_0 rfl rfl rfl rfl rfl rfl ⟨rfl, rfl, rfl, rfl, rfl⟩ d59_246 (c_k_shadow ((((r94.1 / (8 : Int32)) + ((((a57 &&& (127 : Int32)) % (67 : Int32)) + (7 : Int32)) / (8 : Int32))) - (1 : Int32)) + (1 : Int32)) r94.2 _ e25) ?_
                        refine go_sipush (pc := 249) d59_249 cs_251 ?_
                        by_cases h26 : r246 = (251 : Int32)
                        · replace hf := (if_pos h26).symm.trans hf
                          refine go_icN (pc := 252) d59_252 (XT.ii_ne_f h26) ?_
                          refine go_aloadN (pc := 255) d59_255 rfl ?_
                          refine go_virt (pc := 256) (i := 0) (as := []) (rest := []) (w' := (some q, [(9, r94.2)])) lk_1_17 pd_30 rfl oid_0 rfl rfl rfl rfl rfl rfl ⟨rfl, rfl, rfl, rfl, rfl⟩ d59_256 (c_k_quarantineCount r94.2) ?_
                          refine go_iload (pc := 259) d59_259 rfl ?_
                          by_cases h27 : v6 < (k_quarantineCount r94.2)
                          · replace hf := (if_pos h27).symm.trans hf
                            refine go_icN (pc := 261) d59_261 (XT.ii_le_f h27) ?_
                            refine go_iconst (pc := 264) d59_264 ci_0 ?_
                            cases hf
                            exact go_zret (pc := 265) rfl d59_265 (show (0 : Int32) = nar .boolean (0 : Int32) by decide)
                          · replace hf := (if_neg h27).symm.trans hf
                            refine go_icY (pc := 261) (pc' := 266) d59_261 (XT.ii_le_t h27) j_261_5 ?_
                            refine go_iinc (pc := 266) (L' := [.val (.ref 0), .val (.ref 1), .val (.int (v2 + (1 : Int32))), .val (.int v3), .val (.int v4), .val (.int v5), .val (.int v6), .val (.int v7), .val (.long v8), .second, .val (.int v10), .val (.int (a47 &&& (3 : Int32))), .val (.int a57), .val (.int a65), .val (.int a73), .val (.int ((a57 &&& (127 : Int32)) % (67 : Int32))), .val (.int r94.1), .val (.int (((r94.1 / (8 : Int32)) + ((((a57 &&& (127 : Int32)) % (67 : Int32)) + (7 : Int32)) / (8 : Int32))) - (1 : Int32))), x18]) d59_266 rfl ci_1 rfl (go_iload (pc := 269) d59_269 rfl (go_istore (pc := 271) (L' := [.val (.ref 0), .val (.ref 1), .val (.int (v2 + (1 : Int32))), .val (.int v3), .val (.int r94.1), .val (.int v5), .val (.int v6), .val (.int v7), .val (.long v8), .second, .val (.int v10), .val (.int (a47 &&& (3 : Int32))), .val (.int a57), .val (.int a65), .val (.int a73), .val (.int ((a57 &&& (127 : Int32)) % (67 : Int32))), .val (.int r94.1), .val (.int (((r94.1 / (8 : Int32)) + ((((a57 &&& (127 : Int32)) % (67 : Int32)) + (7 : Int32)) / (8 : Int32))) - (1 : Int32))), x18]) d59_271 rfl ?_))
                            exact law_273_ok ih (v2 + (1 : Int32)) v3 r94.1 v5 v8 v10 q r94.2 (.val (.int v6)) (.val (.int v7)) (.val (.int (a47 &&& (3 : Int32)))) (.val (.int a57)) (.val (.int a65)) (.val (.int a73)) (.val (.int ((a57 &&& (127 : Int32)) % (67 : Int32)))) (.val (.int r94.1)) (.val (.int (((r94.1 / (8 : Int32)) + ((((a57 &&& (127 : Int32)) % (67 : Int32)) + (7 : Int32)) / (8 : Int32))) - (1 : Int32)))) x18 (Or.inr ⟨_, rfl, rfl⟩) (Or.inr ⟨_, rfl, rfl⟩) (Or.inr ⟨_, rfl, rfl⟩) (Or.inr ⟨_, rfl, rfl⟩) (Or.inr ⟨_, rfl, rfl⟩) (Or.inr ⟨_, rfl, rfl⟩) (Or.inr ⟨_, rfl, rfl⟩) (Or.inr ⟨_, rfl, rfl⟩) (Or.inr ⟨_, rfl, rfl⟩) hx18 _ hf
                        · replace hf := (if_neg h26).symm.trans hf
                          refine go_icY (pc := 252) (pc' := 264) d59_252 (XT.ii_ne_t h26) j_252_12 ?_
                          refine go_iconst (pc := 264) d59_264 ci_0 ?_
                          cases hf
                          exact go_zret (pc := 265) rfl d59_265 (show (0 : Int32) = nar .boolean (0 : Int32) by decide)
                      · replace hf := (if_neg h24).symm.trans hf
                        refine go_icN (pc := 236) d59_236 (XT.ii_eq_f h24) ?_
                        refine go_iconst (pc := 239) d59_239 ci_0 ?_
                        cases hf
                        exact go_zret (pc := 240) rfl d59_240 (show (0 : Int32) = nar .boolean (0 : Int32) by decide)
                    · replace hf := (if_neg h22).symm.trans hf
                      refine go_icY (pc := 222) (pc' := 239) d59_222 (XT.ii_ne_t h22) j_222_17 ?_
                      refine go_iconst (pc := 239) d59_239 ci_0 ?_
                      cases hf
                      exact go_zret (pc := 240) rfl d59_240 (show (0 : Int32) = nar .boolean (0 : Int32) by decide)
                  · replace hf := (if_neg h20).symm.trans hf
                    refine go_icN (pc := 185) d59_185 (XT.ii_eq_f h20) ?_
                    refine go_iconst (pc := 188) d59_188 ci_0 ?_
                    cases hf
                    exact go_zret (pc := 189) rfl d59_189 (show (0 : Int32) = nar .boolean (0 : Int32) by decide)
                · replace hf := (if_neg h18).symm.trans hf
                  refine go_ifY (pc := 174) (pc' := 188) d59_174 (XT.i0_ne_t h18) j_174_14 ?_
                  refine go_iconst (pc := 188) d59_188 ci_0 ?_
                  cases hf
                  exact go_zret (pc := 189) rfl d59_189 (show (0 : Int32) = nar .boolean (0 : Int32) by decide)
      · replace hf := (if_neg h6).symm.trans hf
        refine go_ifY (pc := 78) (pc' := 276) d59_78 (XT.i0_ne_t h6) j_78_198 ?_
        refine go_iload (pc := 276) d59_276 rfl (go_iconst (pc := 278) d59_278 ci_1 ?_)
        by_cases h7 : (a47 &&& (3 : Int32)) = (1 : Int32)
        · replace hf := (if_pos h7).symm.trans hf
          refine go_icN (pc := 279) d59_279 (XT.ii_ne_f h7) ?_
          refine go_iload (pc := 282) d59_282 rfl (go_iconst (pc := 284) d59_284 ci_1 (go_iand (pc := 285) d59_285 ?_))
          by_cases h12 : (a57 &&& (1 : Int32)) = 0
          · replace hf := (if_pos h12).symm.trans hf
            refine go_ifN (pc := 286) d59_286 (XT.i0_ne_f h12) ?_
            refine go_iload (pc := 289) d59_289 rfl (go_goto (pc := 291) (pc' := 305) d59_291 j_291_14 ?_)
            exact law_305_ok ih v2 v3 v4 v5 v6 v7 v8 v10 v4 q t0 (.val (.int (a47 &&& (3 : Int32)))) (.val (.int a57)) (.val (.int a65)) (.val (.int a73)) x15 x16 x17 x18 (Or.inr ⟨_, rfl, rfl⟩) (Or.inr ⟨_, rfl, rfl⟩) (Or.inr ⟨_, rfl, rfl⟩) (Or.inr ⟨_, rfl, rfl⟩) hx15 hx16 hx17 hx18 _ hf
          · replace hf := (if_neg h12).symm.trans hf
            refine go_ifY (pc := 286) (pc' := 294) d59_286 (XT.i0_ne_t h12) j_286_8 ?_
            refine go_bipush (pc := 294) d59_294 cb_8 (go_iload (pc := 296) d59_296 rfl (go_ldc (pc := 298) (v := (2147483647 : Int32)) d59_298 (List.mem_of_getElem? (i := 234) rfl) (go_iand (pc := 300) d59_300 (go_bipush (pc := 301) d59_301 cb_18 (go_irem (pc := 303) d59_303 (by decide) (go_imul (pc := 304) d59_304 ?_))))))
            exact law_305_ok ih v2 v3 v4 v5 v6 v7 v8 v10 ((8 : Int32) * ((a65 &&& (2147483647 : Int32)) % (18 : Int32))) q t0 (.val (.int (a47 &&& (3 : Int32)))) (.val (.int a57)) (.val (.int a65)) (.val (.int a73)) x15 x16 x17 x18 (Or.inr ⟨_, rfl, rfl⟩) (Or.inr ⟨_, rfl, rfl⟩) (Or.inr ⟨_, rfl, rfl⟩) (Or.inr ⟨_, rfl, rfl⟩) hx15 hx16 hx17 hx18 _ hf
        · replace hf := (if_neg h7).symm.trans hf
          refine go_icY (pc := 279) (pc' := 439) d59_279 (XT.ii_ne_t h7) j_279_160 ?_
          refine go_iload (pc := 439) d59_439 rfl ?_
          refine go_stat (pc := 441) (as := [.int a57]) (rest := []) (w' := (some q, [(9, t0)])) lk_1_39 pd_43 rfl rfl ⟨Nat.le_of_ble_eq_true rfl, Nat.le_of_ble_eq_true rfl⟩ ⟨rfl, rfl, rfl⟩ ⟨rfl, rfl, rfl, rfl, rfl⟩ d59_441 (c_h_sizeOf_n1 a57 q t0) ?_
          refine go_istore (pc := 444) (L' := [.val (.ref 0), .val (.ref 1), .val (.int v2), .val (.int v3), .val (.int v4), .val (.int v5), .val (.int v6), .val (.int v7), .val (.long v8), .second, .val (.int v10), .val (.int (a47 &&& (3 : Int32))), .val (.int a57), .val (.int a65), .val (.int a73), .val (.int (h_sizeOf a57)), x16, x17, x18]) d59_444 (stx rfl hx15 rfl) (go_iload (pc := 446) d59_446 rfl (go_iload (pc := 448) d59_448 rfl ?_))
          obtain ⟨r450, e8, hf⟩ := Option.bind_eq_some_iff.mp hf
          refine go_stat (pc := 450) (as := [.int a65, .int v4]) (rest := []) (w' := (some q, [(9, t0)])) lk_1_44 pd_44 rfl rfl ⟨Nat.le_of_ble_eq_true rfl, Nat.le_of_ble_eq_true rfl⟩ ⟨rfl, rfl, rfl⟩ ⟨rfl, rfl, rfl, rfl, rfl⟩ d59_450 (c_h_addrOf_n1 a65 v4 q t0 _ e8) ?_
          refine go_istore (pc := 453) (L' := [.val (.ref 0), .val (.ref 1), .val (.int v2), .val (.int v3), .val (.int v4), .val (.int v5), .val (.int v6), .val (.int v7), .val (.long v8), .second, .val (.int v10), .val (.int (a47 &&& (3 : Int32))), .val (.int a57), .val (.int a65), .val (.int a73), .val (.int (h_sizeOf a57)), .val (.int r450), x17, x18]) d59_453 (stx rfl hx16 rfl) (go_iload (pc := 455) d59_455 rfl (go_iconst (pc := 457) d59_457 ci_2 ?_))
          by_cases h9 : (a47 &&& (3 : Int32)) = (2 : Int32)
          · replace hf := (if_pos h9).symm.trans hf
            refine go_icN (pc := 458) d59_458 (XT.ii_ne_f h9) ?_
            refine go_aloadN (pc := 461) d59_461 rfl (go_iload (pc := 462) d59_462 rfl (go_iload (pc := 464) d59_464 rfl ?_))
            obtain ⟨r466, e11, hf⟩ := Option.bind_eq_some_iff.mp hf
            refine go_virt (pc := 466) (i := 0) (as := [.int r450, .int (h_sizeOf a57)]) (rest := []) (w' := (some q, [(9, r466.2)])) lk_1_48 pd_51 rfl oid_0 rfl rfl rfl rfl rfl rfl ⟨rfl, rfl, rfl, rfl, rfl⟩ d59_466 (c_k_load r450 (h_sizeOf a57) t0 _ e11) ?_
            refine go_istore (pc := 469) (L' := [.val (.ref 0), .val (.ref 1), .val (.int v2), .val (.int v3), .val (.int v4), .val (.int v5), .val (.int v6), .val (.int v7), .val (.long v8), .second, .val (.int v10), .val (.int (a47 &&& (3 : Int32))), .val (.int a57), .val (.int a65), .val (.int a73), .val (.int (h_sizeOf a57)), .val (.int r450), .val (.int r466.1), x18]) d59_469 (stx rfl hx17 rfl) (go_goto (pc := 471) (pc' := 491) d59_471 j_471_20 ?_)
            exact law_491_ok ih v2 v3 v4 v5 v6 v7 v8 v10 (a47 &&& (3 : Int32)) (h_sizeOf a57) r450 r466.1 q r466.2 (.val (.int a57)) (.val (.int a65)) (.val (.int a73)) x18 (Or.inr ⟨_, rfl, rfl⟩) (Or.inr ⟨_, rfl, rfl⟩) (Or.inr ⟨_, rfl, rfl⟩) hx18 _ hf
          · replace hf := (if_neg h9).symm.trans hf
            refine go_icY (pc := 458) (pc' := 474) d59_458 (XT.ii_ne_t h9) j_458_16 ?_
            refine go_aloadN (pc := 474) d59_474 rfl (go_iload (pc := 475) d59_475 rfl (go_iload (pc := 477) d59_477 rfl (go_iload (pc := 479) d59_479 rfl (go_i2l (pc := 481) d59_481 (go_ldc2 (pc := 482) (u := (65537 : Int64)) d59_482 (List.mem_of_getElem? (i := 80) rfl) (go_lmul (pc := 485) d59_485 ?_))))))
            obtain ⟨r486, e10, hf⟩ := Option.bind_eq_some_iff.mp hf
            refine go_virt (pc := 486) (i := 0) (as := [.int r450, .int (h_sizeOf a57), .long (a73.toInt64 * (65537 : Int64))]) (rest := []) (w' := (some q, [(9, r486.2)])) lk_1_53 pd_53 rfl oid_0 rfl rfl rfl rfl rfl rfl ⟨rfl, rfl, rfl, rfl, rfl⟩ d59_486 (c_k_store r450 (h_sizeOf a57) (a73.toInt64 * (65537 : Int64)) t0 _ e10) ?_
            refine go_istore (pc := 489) (L' := [.val (.ref 0), .val (.ref 1), .val (.int v2), .val (.int v3), .val (.int v4), .val (.int v5), .val (.int v6), .val (.int v7), .val (.long v8), .second, .val (.int v10), .val (.int (a47 &&& (3 : Int32))), .val (.int a57), .val (.int a65), .val (.int a73), .val (.int (h_sizeOf a57)), .val (.int r450), .val (.int r486.1), x18]) d59_489 (stx rfl hx17 rfl) ?_
            exact law_491_ok ih v2 v3 v4 v5 v6 v7 v8 v10 (a47 &&& (3 : Int32)) (h_sizeOf a57) r450 r486.1 q r486.2 (.val (.int a57)) (.val (.int a65)) (.val (.int a73)) x18 (Or.inr ⟨_, rfl, rfl⟩) (Or.inr ⟨_, rfl, rfl⟩) (Or.inr ⟨_, rfl, rfl⟩) hx18 _ hf
    · replace hf := (if_neg h1).symm.trans hf
      refine go_icY (pc := 41) (pc' := 768) d59_41 (XT.ii_ge_t h1) j_41_727 ?_
      refine go_iconst (pc := 768) d59_768 ci_1 ?_
      cases hf
      exact go_zret (pc := 769) rfl d59_769 (show (1 : Int32) = nar .boolean (1 : Int32) by decide)
set_option maxRecDepth 65536 in
set_option maxHeartbeats 4000000 in
theorem law_ok  : ∀  (q : List Int32)  (o : Int32 × S), law q = some o → Go PP m59 0 [.val (.ref 0), .unset, .unset, .unset, .unset, .unset, .unset, .unset, .unset, .unset, .unset, .unset, .unset, .unset, .unset, .unset, .unset, .unset, .unset] [] (some q, []) (some (.int o.1), (some q, [(9, o.2)])) := by
  intro q o hf
  unfold law at hf
  refine go_new (pc := 0) (n := 0) (w' := (some q, [(0, s0)])) (List.mem_of_getElem? (i := 0) rfl) rfl rfl rfl rfl rfl rfl rfl d59_0 oid_0 ?_
  refine go_dupR (pc := 3) d59_3 (go_bipush (pc := 4) d59_4 cb_16 (go_iconst (pc := 6) d59_6 ci_1 (go_bipush (pc := 7) d59_7 cb_96 ?_)))
  obtain ⟨r9, e2, hf⟩ := Option.bind_eq_some_iff.mp hf
  refine go_init (pc := 9) (i := 0) (as := [.int (16 : Int32), .int (1 : Int32), .int (96 : Int32)]) (rest := [.ref 1]) (w' := (some q, [(9, r9)])) lk_1_10 pd_5 rfl oid_0 rfl rfl rfl rfl rfl rfl rfl rfl rfl ⟨rfl, rfl, rfl⟩ ⟨rfl, rfl⟩ d59_9 (c_k_init (16 : Int32) (1 : Int32) (96 : Int32) _ e2) ?_
  refine go_astoreN (pc := 12) (L' := [.val (.ref 0), .val (.ref 1), .unset, .unset, .unset, .unset, .unset, .unset, .unset, .unset, .unset, .unset, .unset, .unset, .unset, .unset, .unset, .unset, .unset]) d59_12 rfl (go_iconst (pc := 13) d59_13 ci_0 (go_istoreN (pc := 14) (L' := [.val (.ref 0), .val (.ref 1), .val (.int (0 : Int32)), .unset, .unset, .unset, .unset, .unset, .unset, .unset, .unset, .unset, .unset, .unset, .unset, .unset, .unset, .unset, .unset]) d59_14 rfl (go_iconst (pc := 15) d59_15 ci_0 (go_istoreN (pc := 16) (L' := [.val (.ref 0), .val (.ref 1), .val (.int (0 : Int32)), .val (.int (0 : Int32)), .unset, .unset, .unset, .unset, .unset, .unset, .unset, .unset, .unset, .unset, .unset, .unset, .unset, .unset, .unset]) d59_16 rfl (go_iconst (pc := 17) d59_17 ci_0 (go_istore (pc := 18) (L' := [.val (.ref 0), .val (.ref 1), .val (.int (0 : Int32)), .val (.int (0 : Int32)), .val (.int (0 : Int32)), .unset, .unset, .unset, .unset, .unset, .unset, .unset, .unset, .unset, .unset, .unset, .unset, .unset, .unset]) d59_18 rfl (go_iconst (pc := 20) d59_20 ci_0 ?_)))))))
  refine go_istore (pc := 21) (L' := [.val (.ref 0), .val (.ref 1), .val (.int (0 : Int32)), .val (.int (0 : Int32)), .val (.int (0 : Int32)), .val (.int (0 : Int32)), .unset, .unset, .unset, .unset, .unset, .unset, .unset, .unset, .unset, .unset, .unset, .unset, .unset]) d59_21 rfl (go_iconst (pc := 23) d59_23 ci_0 (go_istore (pc := 24) (L' := [.val (.ref 0), .val (.ref 1), .val (.int (0 : Int32)), .val (.int (0 : Int32)), .val (.int (0 : Int32)), .val (.int (0 : Int32)), .val (.int (0 : Int32)), .unset, .unset, .unset, .unset, .unset, .unset, .unset, .unset, .unset, .unset, .unset, .unset]) d59_24 rfl (go_iconst (pc := 26) d59_26 ci_0 (go_istore (pc := 27) (L' := [.val (.ref 0), .val (.ref 1), .val (.int (0 : Int32)), .val (.int (0 : Int32)), .val (.int (0 : Int32)), .val (.int (0 : Int32)), .val (.int (0 : Int32)), .val (.int (0 : Int32)), .unset, .unset, .unset, .unset, .unset, .unset, .unset, .unset, .unset, .unset, .unset]) d59_27 rfl (go_lconst (pc := 29) d59_29 cl_0 (go_lstore (pc := 30) (L' := [.val (.ref 0), .val (.ref 1), .val (.int (0 : Int32)), .val (.int (0 : Int32)), .val (.int (0 : Int32)), .val (.int (0 : Int32)), .val (.int (0 : Int32)), .val (.int (0 : Int32)), .val (.long (0 : Int64)), .second, .unset, .unset, .unset, .unset, .unset, .unset, .unset, .unset, .unset]) d59_30 rfl (go_iconst (pc := 32) d59_32 ci_0 ?_)))))))
  refine go_istore (pc := 33) (L' := [.val (.ref 0), .val (.ref 1), .val (.int (0 : Int32)), .val (.int (0 : Int32)), .val (.int (0 : Int32)), .val (.int (0 : Int32)), .val (.int (0 : Int32)), .val (.int (0 : Int32)), .val (.long (0 : Int64)), .second, .val (.int (0 : Int32)), .unset, .unset, .unset, .unset, .unset, .unset, .unset, .unset]) d59_33 rfl ?_
  exact law_35_ok BIG (0 : Int32) (0 : Int32) (0 : Int32) (0 : Int32) (0 : Int32) (0 : Int32) (0 : Int64) (0 : Int32) q r9 .unset .unset .unset .unset .unset .unset .unset .unset (Or.inl rfl) (Or.inl rfl) (Or.inl rfl) (Or.inl rfl) (Or.inl rfl) (Or.inl rfl) (Or.inl rfl) (Or.inl rfl) _ hf
def pnt (f : Nat → Int32) (a : Nat) (v : Int32) : Nat → Nat → Int32
  | 0 => f
  | k + 1 => aupd (pnt f a v k) (a + k) v
theorem pnt_get (f : Nat → Int32) (a : Nat) (v : Int32) : ∀ k g, pnt f a v k g = if a ≤ g ∧ g < a + k then v else f g
  | 0, g => by rw [if_neg (by omega)]; rfl
  | k + 1, g => by
    show (aupd (pnt f a v k) (a + k) v) g = _
    unfold aupd
    by_cases q : g = a + k
    · rw [if_pos q, if_pos (by omega)]
    · rw [if_neg q, pnt_get f a v k g]
      by_cases w : a ≤ g ∧ g < a + k
      · rw [if_pos w, if_pos (by omega)]
      · rw [if_neg w, if_neg (by omega)]
/-- field f of s shows the function h below 16 -/
def Rf (s : S) (f : Nat) (h : Nat → Int32) : Prop := (gA s f).length = 32 ∧ ∀ g, g < 16 → (gA s f)[g]? = some (h g)
theorem Rf.put {s : S} {f : Nat} {h : Nat → Int32} (r : Rf s f h) {g : Nat} (hg : g < 16) (v : Int32) : Rf (sA s f ((gA s f).set g v)) f (aupd h g v) := by
  refine ⟨by rw [gA_sA, if_pos rfl, List.length_set]; exact r.1, fun x hx => ?_⟩
  rw [gA_sA, if_pos rfl]
  unfold aupd
  by_cases q : x = g
  · subst q; rw [if_pos rfl, List.getElem?_set_self (by rw [r.1]; omega)]
  · rw [if_neg q, List.getElem?_set_ne (by omega)]; exact r.2 x hx
theorem Rf.fx {s t : S} {f : Nat} {h : Nat → Int32} (r : Rf s f h) (e : gA t f = gA s f) : Rf t f h := by
  unfold Rf; rw [e]; exact r
theorem paint_loop {a k : Nat} (hk : a + k ≤ 16) (v : Int32) {h : Nat → Int32} : ∀ m j s N, j + m = k → m < N → gI s 0 = 16 → Rf s 1 (pnt h a v j) → ∃ s', k_paintRange_3 N (Int32.ofNat a) (Int32.ofNat k) v (Int32.ofNat j) s = some s' ∧ Fx [] [] [1] [] s s' ∧ Rf s' 1 (pnt h a v k)
  | _, _, _, 0, _, h, _, _ => by omega
  | 0, j, s, N + 1, hj, _, g0, r => by
    have : j = k := by omega
    subst this
    exact ⟨s, by rw [k_paintRange_3, if_neg (by rw [ofNat_lt (by omega) (by omega)]; omega)], Fx.refl .., r⟩
  | m + 1, j, s, N + 1, hj, hN, g0, r => by
    rw [k_paintRange_3, if_pos (by rw [ofNat_lt (by omega) (by omega)]; omega), if_pos ((lt_lit (m := 32) (by omega) (by decide)).mpr (by omega)), ofNat_add', if_neg (ofNat_nonneg (by omega)), g0, if_pos ((lt_lit (m := 16) (by omega) (by decide)).mpr (by omega)), st_ofNat _ _ (by omega) (by rw [r.1]; omega), Option.bind_some, ofNat_succ]
    obtain ⟨s', e, F, R⟩ := paint_loop hk v m (j + 1) (sA s 1 ((gA s 1).set (a + j) v)) N (by omega) (by omega) (by rw [gI_sA]; exact g0) (r.put (by omega) v)
    exact ⟨s', e, ((Fx.refl ..).sA (by simp)).trans F, R⟩
theorem paint_ok {a k : Nat} (hk : a + k ≤ 16) (v : Int32) {h : Nat → Int32} {s : S} (g0 : gI s 0 = 16) (r : Rf s 1 h) : ∃ s', k_paintRange (Int32.ofNat a) (Int32.ofNat k) v s = some s' ∧ Fx [] [] [1] [] s s' ∧ Rf s' 1 (pnt h a v k) :=
  paint_loop hk v k 0 s BIG (by omega) (by unfold BIG; omega) g0 r
theorem owner_loop {a k : Nat} (hk : a + k ≤ 16) (v : Int32) {h : Nat → Int32} : ∀ m j s N, j + m = k → m < N → gI s 0 = 16 → Rf s 2 (pnt h a v j) → ∃ s', k_setOwner_3 N (Int32.ofNat a) (Int32.ofNat k) v (Int32.ofNat j) s = some s' ∧ Fx [] [] [2] [] s s' ∧ Rf s' 2 (pnt h a v k)
  | _, _, _, 0, _, h, _, _ => by omega
  | 0, j, s, N + 1, hj, _, g0, r => by
    have : j = k := by omega
    subst this
    exact ⟨s, by rw [k_setOwner_3, if_neg (by rw [ofNat_lt (by omega) (by omega)]; omega)], Fx.refl .., r⟩
  | m + 1, j, s, N + 1, hj, hN, g0, r => by
    rw [k_setOwner_3, if_pos (by rw [ofNat_lt (by omega) (by omega)]; omega), if_pos ((lt_lit (m := 32) (by omega) (by decide)).mpr (by omega)), ofNat_add', if_neg (ofNat_nonneg (by omega)), g0, if_pos ((lt_lit (m := 16) (by omega) (by decide)).mpr (by omega)), st_ofNat _ _ (by omega) (by rw [r.1]; omega), Option.bind_some, ofNat_succ]
    obtain ⟨s', e, F, R⟩ := owner_loop hk v m (j + 1) (sA s 2 ((gA s 2).set (a + j) v)) N (by omega) (by omega) (by rw [gI_sA]; exact g0) (r.put (by omega) v)
    exact ⟨s', e, ((Fx.refl ..).sA (by simp)).trans F, R⟩
theorem owner_ok {a k : Nat} (hk : a + k ≤ 16) (v : Int32) {h : Nat → Int32} {s : S} (g0 : gI s 0 = 16) (r : Rf s 2 h) : ∃ s', k_setOwner (Int32.ofNat a) (Int32.ofNat k) v s = some s' ∧ Fx [] [] [2] [] s s' ∧ Rf s' 2 (pnt h a v k) :=
  owner_loop hk v k 0 s BIG (by omega) (by unfold BIG; omega) g0 r
/-- the runs of the arena -/
def RR (s : S) (rs : List (Nat × Nat)) : Prop := (gA s 7).length = 32 ∧ (gA s 8).length = 32 ∧ gI s 7 = Int32.ofNat rs.length ∧ rs.length ≤ 16 ∧ (∀ (i : Nat) (p : Nat × Nat), rs[i]? = some p → (gA s 7)[i]? = some (Int32.ofNat p.1) ∧ (gA s 8)[i]? = some (Int32.ofNat p.2)) ∧ ∀ p ∈ rs, p.1 ≤ 16 ∧ p.2 ≤ 16
theorem fit_loop {s : S} {rs : List (Nat × Nat)} (r : RR s rs) {k : Nat} (hk : k ≤ 100) : ∀ m j N, j + m = rs.length → m < N → (∀ i p, i < j → rs[i]? = some p → p.2 < k) → (k_findFitRun_2 N (Int32.ofNat k) (Int32.ofNat j) s = some (-1) ∧ ∀ p ∈ rs, p.2 < k) ∨ ∃ i p, k_findFitRun_2 N (Int32.ofNat k) (Int32.ofNat j) s = some (Int32.ofNat i) ∧ rs[i]? = some p ∧ k ≤ p.2 ∧ ∀ i' p', i' < i → rs[i']? = some p' → p'.2 < k
  | _, _, 0, _, h, _ => by omega
  | 0, j, N + 1, hj, _, b => by
    left
    obtain ⟨l7, l8, c, c16, g, pb⟩ := r
    refine ⟨by rw [k_findFitRun_2, c, if_neg (by rw [ofNat_lt (by omega) (by omega)]; omega)], fun p hp => ?_⟩
    obtain ⟨i, hi⟩ := List.getElem?_of_mem hp
    have := (List.getElem?_eq_some_iff.mp hi).1
    exact b i p (by omega) hi
  | m + 1, j, N + 1, hj, hN, b => by
    obtain ⟨l7, l8, c, c16, g, pb⟩ := id r
    have hj' : j < rs.length := by omega
    have ej : rs[j]? = some rs[j] := List.getElem?_eq_getElem hj'
    obtain ⟨g1, g2⟩ := g j _ ej
    have pj := pb _ (List.mem_of_getElem? ej)
    rw [k_findFitRun_2, c, if_pos (by rw [ofNat_lt (by omega) (by omega)]; omega), if_pos ((lt_lit (m := 32) (by omega) (by decide)).mpr (by omega)), ix_ofNat _ (by omega), g2, Option.bind_some]
    by_cases q : rs[j].2 < k
    · rw [if_pos (by rw [ofNat_lt (by omega) (by omega)]; exact q), ofNat_succ]
      refine fit_loop r hk m (j + 1) N (by omega) (by omega) ?_
      intro i p hi hp
      by_cases w : i = j
      · subst w; rw [ej] at hp; cases hp; exact q
      · exact b i p (by omega) hp
    · rw [if_neg (by rw [ofNat_lt (by omega) (by omega)]; omega)]
      exact Or.inr ⟨j, rs[j], rfl, ej, by omega, fun i' p' h1 h2 => b i' p' h1 h2⟩
theorem fit_ok {s : S} {rs : List (Nat × Nat)} (r : RR s rs) {k : Nat} (hk : k ≤ 100) : (k_findFitRun (Int32.ofNat k) s = some (-1) ∧ ∀ p ∈ rs, p.2 < k) ∨ ∃ i p, k_findFitRun (Int32.ofNat k) s = some (Int32.ofNat i) ∧ rs[i]? = some p ∧ k ≤ p.2 ∧ ∀ i' p', i' < i → rs[i']? = some p' → p'.2 < k := by
  have := r.2.2.2.1
  exact fit_loop r hk rs.length 0 BIG (by omega) (by unfold BIG; omega) (fun i p hi => by omega)
theorem get_mid {A : Type} (pre : List A) (x : A) (post : List A) (i : Nat) : (pre ++ x :: post)[i]? = if i < pre.length then pre[i]? else if i = pre.length then some x else post[i - pre.length - 1]? := by
  rw [List.getElem?_append]
  by_cases q : i < pre.length
  · rw [if_pos q, if_pos q]
  · rw [if_neg q, if_neg q]
    by_cases w : i = pre.length
    · rw [if_pos w, w, Nat.sub_self]; rfl
    · rw [if_neg w]
      obtain ⟨j, hj⟩ : ∃ j, i - pre.length = j + 1 := ⟨i - pre.length - 1, by omega⟩
      rw [hj, List.getElem?_cons_succ]; rfl
theorem get_two {A : Type} (pre post : List A) (i : Nat) : (pre ++ post)[i]? = if i < pre.length then pre[i]? else post[i - pre.length]? := List.getElem?_append
theorem shl_loop {A7 A8 : List Int32} (h7 : A7.length = 32) (h8 : A8.length = 32) {i len : Nat} (hl : len ≤ 16) (hi : i < len) : ∀ m j s N, j + m + 1 = len → m < N → i ≤ j → gI s 7 = Int32.ofNat len → (gA s 7).length = 32 → (gA s 8).length = 32 → (∀ x, x < 32 → (gA s 7)[x]? = (if i ≤ x ∧ x < j then A7[x + 1]? else A7[x]?) ∧ (gA s 8)[x]? = (if i ≤ x ∧ x < j then A8[x + 1]? else A8[x]?)) → ∃ s', k_removeRun_15 N (Int32.ofNat j) s = k_removeRun_65 s' ∧ Fx [] [] [7, 8] [] s s' ∧ (gA s' 7).length = 32 ∧ (gA s' 8).length = 32 ∧ (∀ x, x < 32 → (gA s' 7)[x]? = (if i ≤ x ∧ x < len - 1 then A7[x + 1]? else A7[x]?) ∧ (gA s' 8)[x]? = (if i ≤ x ∧ x < len - 1 then A8[x + 1]? else A8[x]?))
  | _, _, _, 0, _, h, _, _, _, _, _ => by omega
  | 0, j, s, N + 1, hj, _, hij, c, l7, l8, g => by
    have : j = len - 1 := by omega
    subst this
    have s1 : Int32.ofNat len - 1 = Int32.ofNat (len - 1) := by
      have := ofNat_succ (len - 1)
      rw [show len - 1 + 1 = len by omega] at this
      rw [← this]; simp
    exact ⟨s, by rw [k_removeRun_15, c, s1, if_neg (by rw [ofNat_lt (by omega) (by omega)]; omega)], Fx.refl .., l7, l8, g⟩
  | m + 1, j, s, N + 1, hj, hN, hij, c, l7, l8, g => by
    have s1 : Int32.ofNat len - 1 = Int32.ofNat (len - 1) := by
      have := ofNat_succ (len - 1)
      rw [show len - 1 + 1 = len by omega] at this
      rw [← this]; simp
    obtain ⟨g1, g2⟩ := g (j + 1) (by omega)
    have b7 : A7[j + 1]? = some A7[j + 1] := List.getElem?_eq_getElem (by omega)
    have b8 : A8[j + 1]? = some A8[j + 1] := List.getElem?_eq_getElem (by omega)
    rw [if_neg (by omega), b7] at g1
    rw [if_neg (by omega), b8] at g2
    rw [k_removeRun_15, c, s1, if_pos (by rw [ofNat_lt (by omega) (by omega)]; omega), if_pos ((lt_lit (m := 31) (by omega) (by decide)).mpr (by omega)), ofNat_succ, ix_ofNat _ (by omega), g1, Option.bind_some, st_ofNat _ _ (by omega) (by omega), Option.bind_some, ix_ofNat _ (by omega), g2, Option.bind_some, st_ofNat _ _ (by omega) (by omega), Option.bind_some]
    obtain ⟨s', e, F, r⟩ := shl_loop h7 h8 hl hi m (j + 1) (sA (sA s 7 ((gA s 7).set j A7[j + 1])) 8 ((gA s 8).set j A8[j + 1])) N (by omega) (by omega) (by omega) (by simp only [gI_sA]; exact c) (by simp only [gA_sA]; simp [l7]) (by simp only [gA_sA]; simp [l8]) (fun x hx => by
      obtain ⟨k1, k2⟩ := g x hx
      simp only [gA_sA]
      simp only [show ¬ (7 : Nat) = 8 by decide, if_false, if_true]
      by_cases w : x = j
      · subst w
        rw [List.getElem?_set_self (by omega), List.getElem?_set_self (by omega), if_pos (by omega), if_pos (by omega), b7, b8]
        exact ⟨rfl, rfl⟩
      · rw [List.getElem?_set_ne (by omega), List.getElem?_set_ne (by omega), k1, k2]
        by_cases z : i ≤ x ∧ x < j
        · rw [if_pos z, if_pos (by omega), if_pos z, if_pos (by omega)]; exact ⟨rfl, rfl⟩
        · rw [if_neg z, if_neg (by omega), if_neg z, if_neg (by omega)]; exact ⟨rfl, rfl⟩)
    exact ⟨s', e, (((Fx.refl ..).sA (by simp)).sA (by simp)).trans F, r⟩
theorem remove_ok {s : S} {pre post : List (Nat × Nat)} {p : Nat × Nat} (r : RR s (pre ++ p :: post)) : ∃ s', k_removeRun (Int32.ofNat pre.length) s = some s' ∧ Fx [7] [] [7, 8] [] s s' ∧ RR s' (pre ++ post) := by
  obtain ⟨l7, l8, c, c16, g, pb⟩ := r
  have hlen : (pre ++ p :: post).length = pre.length + post.length + 1 := by simp; omega
  obtain ⟨s', e, F, k7, k8, k⟩ := shl_loop l7 l8 (len := (pre ++ p :: post).length) (i := pre.length) c16 (by omega) post.length pre.length s BIG (by omega) (by unfold BIG; omega) (Nat.le_refl _) c l7 l8 (fun x hx => by rw [if_neg (by omega), if_neg (by omega)]; exact ⟨rfl, rfl⟩)
  refine ⟨sI s' 7 (gI s' 7 - 1), ?_, (F.mono (by simp) (by simp) (by simp) (by simp)).sI (by simp), ?_, ?_, ?_, ?_, ?_, ?_⟩
  · unfold k_removeRun
    rw [if_neg (ofNat_nonneg (by omega)), c, if_pos (by rw [ofNat_lt (by omega) (by omega)]; omega), e]
    rfl
  · rw [gA_sI]; exact k7
  · rw [gA_sI]; exact k8
  · rw [gI_sI, if_pos rfl, F.1 7 (by simp), c]
    have := ofNat_succ ((pre ++ post).length)
    rw [show (pre ++ post).length + 1 = (pre ++ p :: post).length by simp; omega] at this
    rw [← this]; simp
  · rw [hlen] at c16; simp; omega
  · intro i q hq
    have hi : i < (pre ++ post).length := (List.getElem?_eq_some_iff.mp hq).1
    have hi' : i < pre.length + post.length := by simpa using hi
    obtain ⟨k1, k2⟩ := k i (by omega)
    rw [gA_sI, gA_sI, k1, k2]
    rw [get_two] at hq
    by_cases w : i < pre.length
    · rw [if_pos w] at hq
      rw [if_neg (by omega), if_neg (by omega)]
      exact g i q (by rw [get_mid, if_pos w]; exact hq)
    · rw [if_neg w] at hq
      rw [if_pos (by omega), if_pos (by omega)]
      refine g (i + 1) q ?_
      rw [get_mid, if_neg (by omega), if_neg (by omega), show i + 1 - pre.length - 1 = i - pre.length by omega]
      exact hq
  · intro q hq
    refine pb q ?_
    simp only [List.mem_append, List.mem_cons] at hq ⊢
    rcases hq with h | h
    · exact Or.inl h
    · exact Or.inr (Or.inr h)
theorem shr_loop {A7 A8 : List Int32} (h7 : A7.length = 32) (h8 : A8.length = 32) {i len : Nat} (hl : len ≤ 16) (hi : i ≤ len) (v2 v3 : Int32) : ∀ m j s N, i + m = j → j ≤ len → m < N → (gA s 7).length = 32 → (gA s 8).length = 32 → (∀ x, x < 32 → (gA s 7)[x]? = (if j < x ∧ x ≤ len then A7[x - 1]? else A7[x]?) ∧ (gA s 8)[x]? = (if j < x ∧ x ≤ len then A8[x - 1]? else A8[x]?)) → ∃ s', k_insertRun_28 N (Int32.ofNat i) v2 v3 (Int32.ofNat j) s = k_insertRun_77 (Int32.ofNat i) v2 v3 s' ∧ Fx [] [] [7, 8] [] s s' ∧ (gA s' 7).length = 32 ∧ (gA s' 8).length = 32 ∧ (∀ x, x < 32 → (gA s' 7)[x]? = (if i < x ∧ x ≤ len then A7[x - 1]? else A7[x]?) ∧ (gA s' 8)[x]? = (if i < x ∧ x ≤ len then A8[x - 1]? else A8[x]?))
  | _, _, _, 0, _, _, h, _, _, _ => by omega
  | 0, j, s, N + 1, hj, _, _, l7, l8, g => by
    have : j = i := by omega
    subst this
    exact ⟨s, by rw [k_insertRun_28, if_neg (by rw [ofNat_lt (by omega) (by omega)]; omega)], Fx.refl .., l7, l8, g⟩
  | m + 1, j, s, N + 1, hj, hjl, hN, l7, l8, g => by
    have s1 : Int32.ofNat j - 1 = Int32.ofNat (j - 1) := by
      have := ofNat_succ (j - 1)
      rw [show j - 1 + 1 = j by omega] at this
      rw [← this]; simp
    have s2 : Int32.ofNat j + -1 = Int32.ofNat (j - 1) := by
      have := ofNat_succ (j - 1)
      rw [show j - 1 + 1 = j by omega] at this
      rw [← this]; simp [Int32.add_assoc]
    obtain ⟨g1, g2⟩ := g (j - 1) (by omega)
    have b7 : A7[j - 1]? = some A7[j - 1] := List.getElem?_eq_getElem (by omega)
    have b8 : A8[j - 1]? = some A8[j - 1] := List.getElem?_eq_getElem (by omega)
    rw [if_neg (by omega), b7] at g1
    rw [if_neg (by omega), b8] at g2
    rw [k_insertRun_28, if_pos (by rw [ofNat_lt (by omega) (by omega)]; omega), if_pos (by rw [show (0 : Int32) = Int32.ofNat 0 from rfl, ofNat_lt (by omega) (by omega)]; omega), s1, ix_ofNat _ (by omega), g1, Option.bind_some, st_ofNat _ _ (by omega) (by omega), Option.bind_some, ix_ofNat _ (by omega), g2, Option.bind_some, st_ofNat _ _ (by omega) (by omega), Option.bind_some, s2]
    obtain ⟨s', e, F, r⟩ := shr_loop h7 h8 hl hi v2 v3 m (j - 1) (sA (sA s 7 ((gA s 7).set j A7[j - 1])) 8 ((gA s 8).set j A8[j - 1])) N (by omega) (by omega) (by omega) (by simp only [gA_sA]; simp [l7]) (by simp only [gA_sA]; simp [l8]) (fun x hx => by
      obtain ⟨k1, k2⟩ := g x hx
      simp only [gA_sA]
      simp only [show ¬ (7 : Nat) = 8 by decide, if_false, if_true]
      by_cases w : x = j
      · subst w
        rw [List.getElem?_set_self (by omega), List.getElem?_set_self (by omega), if_pos (by omega), if_pos (by omega), b7, b8]
        exact ⟨rfl, rfl⟩
      · rw [List.getElem?_set_ne (by omega), List.getElem?_set_ne (by omega), k1, k2]
        by_cases z : j < x ∧ x ≤ len
        · rw [if_pos z, if_pos (by omega), if_pos z, if_pos (by omega)]; exact ⟨rfl, rfl⟩
        · rw [if_neg z, if_neg (by omega), if_neg z, if_neg (by omega)]; exact ⟨rfl, rfl⟩)
    exact ⟨s', e, (((Fx.refl ..).sA (by simp)).sA (by simp)).trans F, r⟩
theorem insert_ok {s : S} {pre post : List (Nat × Nat)} (r : RR s (pre ++ post)) (hc : (pre ++ post).length < 16) {a l : Nat} (ha : a ≤ 16) (hl : l ≤ 16) : ∃ s', k_insertRun (Int32.ofNat pre.length) (Int32.ofNat a) (Int32.ofNat l) s = some s' ∧ Fx [7] [] [7, 8] [] s s' ∧ RR s' (pre ++ (a, l) :: post) := by
  obtain ⟨l7, l8, c, c16, g, pb⟩ := r
  have hlen : (pre ++ post).length = pre.length + post.length := by simp
  have hlen' : (pre ++ (a, l) :: post).length = (pre ++ post).length + 1 := by simp; omega
  obtain ⟨s', e, F, k7, k8, k⟩ := shr_loop l7 l8 (len := (pre ++ post).length) (i := pre.length) c16 (by omega) (Int32.ofNat a) (Int32.ofNat l) post.length (pre ++ post).length s BIG (by omega) (Nat.le_refl _) (by unfold BIG; omega) l7 l8 (fun x hx => by rw [if_neg (by omega), if_neg (by omega)]; exact ⟨rfl, rfl⟩)
  refine ⟨sI (sA (sA s' 7 ((gA s' 7).set pre.length (Int32.ofNat a))) 8 ((gA s' 8).set pre.length (Int32.ofNat l))) 7 (gI s' 7 + 1), ?_, (((F.mono (by simp) (by simp) (by simp) (by simp)).sA (by simp)).sA (by simp)).sI (by simp), ?_, ?_, ?_, ?_, ?_, ?_⟩
  · unfold k_insertRun
    rw [c, if_pos ((lt_lit (m := 32) (by omega) (by decide)).mpr (by omega)), if_neg (ofNat_nonneg (by omega)), if_neg (by rw [ofNat_lt (by omega) (by omega)]; omega), e]
    unfold k_insertRun_77
    rw [st_ofNat _ _ (by omega) (by omega), Option.bind_some, st_ofNat _ _ (by omega) (by omega), Option.bind_some]
  · simp only [gA_sI, gA_sA]; simp [k7]
  · simp only [gA_sI, gA_sA]; simp [k8]
  · rw [gI_sI, if_pos rfl, F.1 7 (by simp), c, ofNat_succ, hlen']
  · omega
  · intro i q hq
    have hi : i < (pre ++ (a, l) :: post).length := (List.getElem?_eq_some_iff.mp hq).1
    obtain ⟨k1, k2⟩ := k i (by omega)
    simp only [gA_sI, gA_sA]
    simp only [show ¬ (7 : Nat) = 8 by decide, if_false, if_true]
    rw [get_mid] at hq
    by_cases w : i < pre.length
    · rw [if_pos w] at hq
      rw [List.getElem?_set_ne (by omega), List.getElem?_set_ne (by omega), k1, k2, if_neg (by omega), if_neg (by omega)]
      exact g i q (by rw [get_two, if_pos w]; exact hq)
    · rw [if_neg w] at hq
      by_cases z : i = pre.length
      · rw [if_pos z] at hq
        cases hq
        rw [z, List.getElem?_set_self (by omega), List.getElem?_set_self (by omega)]
        exact ⟨rfl, rfl⟩
      · rw [if_neg z] at hq
        rw [List.getElem?_set_ne (by omega), List.getElem?_set_ne (by omega), k1, k2, if_pos (by omega), if_pos (by omega)]
        refine g (i - 1) q ?_
        rw [get_two, if_neg (by omega), show i - 1 - pre.length = i - pre.length - 1 by omega]
        exact hq
  · intro q hq
    simp only [List.mem_append, List.mem_cons] at hq
    rcases hq with h | h | h
    · exact pb q (List.mem_append_left _ h)
    · rw [h]; exact ⟨ha, hl⟩
    · exact pb q (List.mem_append_right _ h)
theorem pos_loop {s : S} {rs : List (Nat × Nat)} (r : RR s rs) {a : Nat} (ha : a ≤ 100) : ∀ m j N, j + m = rs.length → m < N → (∀ (i : Nat) (p : Nat × Nat), i < j → rs[i]? = some p → p.1 ≤ a) → ∃ pre post, rs = pre ++ post ∧ k_runInsertPosition_2 N (Int32.ofNat a) (Int32.ofNat j) s = some (Int32.ofNat pre.length) ∧ (∀ p ∈ pre, p.1 ≤ a) ∧ (∀ q post', post = q :: post' → a < q.1)
  | _, _, 0, _, h, _ => by omega
  | 0, j, N + 1, hj, _, b => by
    obtain ⟨l7, l8, c, c16, g, pb⟩ := r
    refine ⟨rs, [], by simp, by rw [k_runInsertPosition_2, c, if_neg (by rw [ofNat_lt (by omega) (by omega)]; omega)], fun p hp => ?_, fun q post' e => by cases e⟩
    obtain ⟨i, hi⟩ := List.getElem?_of_mem hp
    have := (List.getElem?_eq_some_iff.mp hi).1
    exact b i p (by omega) hi
  | m + 1, j, N + 1, hj, hN, b => by
    obtain ⟨l7, l8, c, c16, g, pb⟩ := id r
    have hj' : j < rs.length := by omega
    have ej : rs[j]? = some rs[j] := List.getElem?_eq_getElem hj'
    obtain ⟨g1, g2⟩ := g j _ ej
    have pj := pb _ (List.mem_of_getElem? ej)
    rw [k_runInsertPosition_2, c, if_pos (by rw [ofNat_lt (by omega) (by omega)]; omega), if_pos ((lt_lit (m := 32) (by omega) (by decide)).mpr (by omega)), ix_ofNat _ (by omega), g1, Option.bind_some]
    by_cases q : a < rs[j].1
    · rw [if_pos (by rw [ofNat_lt (by omega) (by omega)]; exact q)]
      refine ⟨rs.take j, rs.drop j, (List.take_append_drop j rs).symm, by rw [List.length_take, Nat.min_eq_left (by omega)], fun p hp => ?_, fun p post' e => ?_⟩
      · obtain ⟨i, hi⟩ := List.getElem?_of_mem hp
        have h1 := (List.getElem?_eq_some_iff.mp hi).1
        rw [List.length_take, Nat.min_eq_left (by omega)] at h1
        rw [List.getElem?_take_of_lt h1] at hi
        exact b i p h1 hi
      · have : (rs.drop j)[0]? = some p := by rw [e]; rfl
        rw [List.getElem?_drop, Nat.add_zero, ej] at this
        cases this; exact q
    · rw [if_neg (by rw [ofNat_lt (by omega) (by omega)]; omega), ofNat_succ]
      refine pos_loop r ha m (j + 1) N (by omega) (by omega) ?_
      intro i p hi hp
      by_cases w : i = j
      · subst w; rw [ej] at hp; cases hp; omega
      · exact b i p (by omega) hp
def Sep (rs : List (Nat × Nat)) : Prop := rs.Pairwise (fun a b => a.1 + a.2 < b.1) ∧ ∀ p ∈ rs, 0 < p.2 ∧ p.1 + p.2 ≤ 16
def cov (rs : List (Nat × Nat)) (g : Nat) : Prop := ∃ p ∈ rs, p.1 ≤ g ∧ g < p.1 + p.2
def tot (rs : List (Nat × Nat)) : Nat := (rs.map fun p => p.2).sum
theorem tot_app (a b : List (Nat × Nat)) : tot (a ++ b) = tot a + tot b := by unfold tot; simp
theorem tot_cons (p : Nat × Nat) (b : List (Nat × Nat)) : tot (p :: b) = p.2 + tot b := by unfold tot; simp
theorem cov_app (a b : List (Nat × Nat)) (g : Nat) : cov (a ++ b) g ↔ cov a g ∨ cov b g := by
  unfold cov
  constructor
  · rintro ⟨p, hp, h⟩
    rcases List.mem_append.mp hp with q | q
    · exact Or.inl ⟨p, q, h⟩
    · exact Or.inr ⟨p, q, h⟩
  · rintro (⟨p, hp, h⟩ | ⟨p, hp, h⟩)
    · exact ⟨p, List.mem_append_left _ hp, h⟩
    · exact ⟨p, List.mem_append_right _ hp, h⟩
theorem cov_cons (x : Nat × Nat) (b : List (Nat × Nat)) (g : Nat) : cov (x :: b) g ↔ (x.1 ≤ g ∧ g < x.1 + x.2) ∨ cov b g := by
  unfold cov
  constructor
  · rintro ⟨p, hp, h⟩
    rcases List.mem_cons.mp hp with q | q
    · rw [q] at h; exact Or.inl h
    · exact Or.inr ⟨p, q, h⟩
  · rintro (h | ⟨p, hp, h⟩)
    · exact ⟨x, List.mem_cons_self, h⟩
    · exact ⟨p, List.mem_cons_of_mem _ hp, h⟩
theorem sep_mid {pre post : List (Nat × Nat)} {x : Nat × Nat} : Sep (pre ++ x :: post) ↔ Sep pre ∧ Sep post ∧ (∀ p ∈ pre, p.1 + p.2 < x.1) ∧ (∀ q ∈ post, x.1 + x.2 < q.1) ∧ (∀ p ∈ pre, ∀ q ∈ post, p.1 + p.2 < q.1) ∧ 0 < x.2 ∧ x.1 + x.2 ≤ 16 := by
  unfold Sep
  rw [List.pairwise_append, List.pairwise_cons]
  constructor
  · rintro ⟨⟨h1, ⟨h2, h3⟩, h4⟩, h5⟩
    refine ⟨⟨h1, fun p hp => h5 p (List.mem_append_left _ hp)⟩, ⟨h3, fun p hp => h5 p (List.mem_append_right _ (List.mem_cons_of_mem _ hp))⟩, fun p hp => h4 p hp x List.mem_cons_self, h2, fun p hp q hq => h4 p hp q (List.mem_cons_of_mem _ hq), h5 x (List.mem_append_right _ List.mem_cons_self)⟩
  · rintro ⟨⟨h1, h1'⟩, ⟨h2, h2'⟩, h3, h4, h5, h6⟩
    refine ⟨⟨h1, ⟨h4, h2⟩, fun p hp q hq => ?_⟩, fun p hp => ?_⟩
    · rcases List.mem_cons.mp hq with w | w
      · rw [w]; exact h3 p hp
      · exact h5 p hp q w
    · rcases List.mem_append.mp hp with w | w
      · exact h1' p w
      · rcases List.mem_cons.mp w with z | z
        · rw [z]; exact h6
        · exact h2' p z
theorem sep_two {pre post : List (Nat × Nat)} : Sep (pre ++ post) ↔ Sep pre ∧ Sep post ∧ ∀ p ∈ pre, ∀ q ∈ post, p.1 + p.2 < q.1 := by
  unfold Sep
  rw [List.pairwise_append]
  constructor
  · rintro ⟨⟨h1, h2, h3⟩, h4⟩
    exact ⟨⟨h1, fun p hp => h4 p (List.mem_append_left _ hp)⟩, ⟨h2, fun p hp => h4 p (List.mem_append_right _ hp)⟩, h3⟩
  · rintro ⟨⟨h1, h1'⟩, ⟨h2, h2'⟩, h3⟩
    refine ⟨⟨h1, h2, h3⟩, fun p hp => ?_⟩
    rcases List.mem_append.mp hp with w | w
    · exact h1' p w
    · exact h2' p w
theorem sep_bound : ∀ {rs : List (Nat × Nat)} (lo : Nat), Sep rs → (∀ p ∈ rs, lo ≤ p.1) → lo ≤ 17 → 2 * rs.length + lo ≤ 17
  | [], lo, _, _, h => by simpa using h
  | x :: r, lo, h, b, h17 => by
    have h0 := (sep_mid (pre := [])).mp h
    obtain ⟨_, hr, _, hx, _, x0, x16⟩ := h0
    have bx := b x List.mem_cons_self
    have := sep_bound (x.1 + x.2 + 1) hr (fun p hp => by have := hx p hp; omega) (by omega)
    rw [List.length_cons]
    omega
theorem sep_len {rs : List (Nat × Nat)} (h : Sep rs) : rs.length ≤ 8 := by
  have := sep_bound 0 h (fun _ _ => by omega) (by omega)
  omega
theorem sep_ends {pre post : List (Nat × Nat)} {a l : Nat} (hS : Sep (pre ++ post)) (hl : 0 < l) (dj : ∀ g, a ≤ g → g < a + l → ¬ cov (pre ++ post) g) (hpre : ∀ p ∈ pre, p.1 ≤ a) (hpost : ∀ q post', post = q :: post' → a < q.1) : (∀ p ∈ pre, p.1 + p.2 ≤ a) ∧ (∀ q ∈ post, a + l ≤ q.1) := by
  constructor
  · intro p hp
    have h1 := hpre p hp
    rcases Nat.lt_or_ge a (p.1 + p.2) with w | w
    · exact absurd ⟨p, List.mem_append_left _ hp, h1, w⟩ (dj a (Nat.le_refl _) (by omega))
    · exact w
  · intro q hq
    have gt : a < q.1 := by
      cases post with
      | nil => cases hq
      | cons x r =>
        have hx := hpost x r rfl
        rcases List.mem_cons.mp hq with w | w
        · rw [w]; exact hx
        · have := (sep_mid.mp hS).2.2.2.1 q w
          omega
    have q0 := (hS.2 q (List.mem_append_right _ hq)).1
    rcases Nat.lt_or_ge q.1 (a + l) with w | w
    · exact absurd ⟨q, List.mem_append_right _ hq, Nat.le_refl _, by omega⟩ (dj q.1 (by omega) w)
    · exact w
theorem RR.set8 {s : S} {pre post : List (Nat × Nat)} {p : Nat × Nat} (r : RR s (pre ++ p :: post)) {x : Nat} (hx : x ≤ 16) : RR (sA s 8 ((gA s 8).set pre.length (Int32.ofNat x))) (pre ++ (p.1, x) :: post) := by
  obtain ⟨l7, l8, c, c16, g, pb⟩ := r
  have hlen : (pre ++ (p.1, x) :: post).length = (pre ++ p :: post).length := by simp
  have hp : pre.length < (pre ++ p :: post).length := by simp
  refine ⟨by simp only [gA_sA]; simp [l7], by simp only [gA_sA]; simp [l8], by rw [gI_sA, hlen]; exact c, by omega, fun i q hq => ?_, fun q hq => ?_⟩
  · rw [get_mid] at hq
    simp only [gA_sA]
    simp only [show ¬ (7 : Nat) = 8 by decide, if_false, if_true]
    by_cases w : i < pre.length
    · rw [if_pos w] at hq
      rw [List.getElem?_set_ne (by omega)]
      exact g i q (by rw [get_mid, if_pos w]; exact hq)
    · rw [if_neg w] at hq
      by_cases z : i = pre.length
      · rw [if_pos z] at hq
        cases hq
        rw [z, List.getElem?_set_self (by omega)]
        exact ⟨(g pre.length p (by rw [get_mid, if_neg (by omega), if_pos rfl])).1, rfl⟩
      · rw [if_neg z] at hq
        rw [List.getElem?_set_ne (by omega)]
        exact g i q (by rw [get_mid, if_neg w, if_neg z]; exact hq)
  · rcases List.mem_append.mp hq with w | w
    · exact pb q (List.mem_append_left _ w)
    · rcases List.mem_cons.mp w with z | z
      · rw [z]; exact ⟨(pb p (List.mem_append_right _ List.mem_cons_self)).1, hx⟩
      · exact pb q (List.mem_append_right _ (List.mem_cons_of_mem _ z))
theorem RR.set7 {s : S} {pre post : List (Nat × Nat)} {p : Nat × Nat} (r : RR s (pre ++ p :: post)) {x : Nat} (hx : x ≤ 16) : RR (sA s 7 ((gA s 7).set pre.length (Int32.ofNat x))) (pre ++ (x, p.2) :: post) := by
  obtain ⟨l7, l8, c, c16, g, pb⟩ := r
  have hlen : (pre ++ (x, p.2) :: post).length = (pre ++ p :: post).length := by simp
  have hp : pre.length < (pre ++ p :: post).length := by simp
  refine ⟨by simp only [gA_sA]; simp [l7], by simp only [gA_sA]; simp [l8], by rw [gI_sA, hlen]; exact c, by omega, fun i q hq => ?_, fun q hq => ?_⟩
  · rw [get_mid] at hq
    simp only [gA_sA]
    simp only [show ¬ (8 : Nat) = 7 by decide, if_false, if_true]
    by_cases w : i < pre.length
    · rw [if_pos w] at hq
      rw [List.getElem?_set_ne (by omega)]
      exact g i q (by rw [get_mid, if_pos w]; exact hq)
    · rw [if_neg w] at hq
      by_cases z : i = pre.length
      · rw [if_pos z] at hq
        cases hq
        rw [z, List.getElem?_set_self (by omega)]
        exact ⟨rfl, (g pre.length p (by rw [get_mid, if_neg (by omega), if_pos rfl])).2⟩
      · rw [if_neg z] at hq
        rw [List.getElem?_set_ne (by omega)]
        exact g i q (by rw [get_mid, if_neg w, if_neg z]; exact hq)
  · rcases List.mem_append.mp hq with w | w
    · exact pb q (List.mem_append_left _ w)
    · rcases List.mem_cons.mp w with z | z
      · rw [z]; exact ⟨hx, (pb p (List.mem_append_right _ List.mem_cons_self)).2⟩
      · exact pb q (List.mem_append_right _ (List.mem_cons_of_mem _ z))
theorem RR.at {s : S} {pre post : List (Nat × Nat)} {p : Nat × Nat} (r : RR s (pre ++ p :: post)) : (gA s 7)[pre.length]? = some (Int32.ofNat p.1) ∧ (gA s 8)[pre.length]? = some (Int32.ofNat p.2) := r.2.2.2.2.1 pre.length p (by rw [get_mid, if_neg (by omega), if_pos rfl])
theorem nat_eq {x y : Nat} (hx : x < 1000) (hy : y < 1000) : Int32.ofNat x = Int32.ofNat y ↔ x = y := by
  constructor
  · intro e
    have := congrArg Int32.toInt e
    rw [ofNat_toInt (by omega), ofNat_toInt (by omega)] at this
    omega
  · intro e; rw [e]
theorem release_ok {s : S} {rs : List (Nat × Nat)} (r : RR s rs) (hS : Sep rs) {a l : Nat} (hl : 0 < l) (hal : a + l ≤ 16) (dj : ∀ g, a ≤ g → g < a + l → ¬ cov rs g) : ∃ s' rs', k_releaseRange (Int32.ofNat a) (Int32.ofNat l) s = some s' ∧ Fx [7] [] [7, 8] [] s s' ∧ RR s' rs' ∧ Sep rs' ∧ (∀ g, cov rs' g ↔ cov rs g ∨ (a ≤ g ∧ g < a + l)) ∧ tot rs' = tot rs + l := by
  obtain ⟨pre, post, e, ep, hpre, hpost⟩ := pos_loop r (a := a) (by omega) rs.length 0 BIG (by omega) (by have := r.2.2.2.1; unfold BIG; omega) (fun i p hi => by omega)
  subst e
  obtain ⟨E1, E2⟩ := sep_ends hS hl dj hpre hpost
  have hc := sep_len hS
  have hlen : (pre ++ post).length = pre.length + post.length := by simp
  have cI : gI s 7 = Int32.ofNat (pre ++ post).length := r.2.2.1
  unfold k_releaseRange k_runInsertPosition
  rw [show (0 : Int32) = Int32.ofNat 0 from rfl, ep, Option.bind_some]
  -- the left neighbour
  have L : ∃ jp : Int32, (if Int32.ofNat 0 < Int32.ofNat pre.length then (ix (gA s 7) (Int32.ofNat pre.length - 1)).bind fun a17 => (ix (gA s 8) (Int32.ofNat pre.length - 1)).bind fun a25 => k_releaseRange_36 (Int32.ofNat a) (Int32.ofNat l) (Int32.ofNat pre.length) (if a17 + a25 = Int32.ofNat a then 1 else Int32.ofNat 0) s else k_releaseRange_35 (Int32.ofNat a) (Int32.ofNat l) (Int32.ofNat pre.length) s) = k_releaseRange_36 (Int32.ofNat a) (Int32.ofNat l) (Int32.ofNat pre.length) jp s ∧ ((jp = 0 ∧ ∀ p pre', pre = pre' ++ [p] → p.1 + p.2 ≠ a) ∨ (jp = 1 ∧ ∃ p pre', pre = pre' ++ [p] ∧ p.1 + p.2 = a)) := by
    rcases List.eq_nil_or_concat pre with w | ⟨pre', p, w⟩
    · refine ⟨0, ?_, Or.inl ⟨rfl, fun p pre' z => ?_⟩⟩
      · rw [w, if_neg (by decide)]; rfl
      · rw [w] at z; have := congrArg List.length z; simp at this
    · have w' : pre = pre' ++ [p] := by rw [w]; simp
      have lp : pre.length = pre'.length + 1 := by rw [w']; simp
      have rr : RR s (pre' ++ p :: post) := by rw [w', List.append_assoc] at r; exact r
      obtain ⟨g7, g8⟩ := rr.at
      have pS := hS.2 p (by rw [w']; simp)
      have s1 : Int32.ofNat pre.length - 1 = Int32.ofNat pre'.length := by rw [lp, ← ofNat_succ]; simp
      rw [if_pos (by rw [ofNat_lt (by omega) (by omega)]; omega), s1, ix_ofNat _ (by omega), g7, Option.bind_some, ix_ofNat _ (by omega), g8, Option.bind_some, ofNat_add']
      by_cases q : p.1 + p.2 = a
      · exact ⟨1, by rw [if_pos (by rw [q])], Or.inr ⟨rfl, p, pre', w', q⟩⟩
      · refine ⟨0, by rw [if_neg (fun z => q ((nat_eq (by omega) (by omega)).mp z))]; rfl, Or.inl ⟨rfl, fun p2 pre2 z => ?_⟩⟩
        rw [w'] at z
        have := List.append_inj_right' z rfl
        cases this
        exact q
  obtain ⟨jp, ej, hj⟩ := L
  rw [ej]
  have Rr : ∃ jn : Int32, k_releaseRange_36 (Int32.ofNat a) (Int32.ofNat l) (Int32.ofNat pre.length) jp s = k_releaseRange_63 (Int32.ofNat a) (Int32.ofNat l) (Int32.ofNat pre.length) jp jn s ∧ ((jn = 0 ∧ ∀ q post', post = q :: post' → a + l ≠ q.1) ∨ (jn = 1 ∧ ∃ q post', post = q :: post' ∧ a + l = q.1)) := by
    unfold k_releaseRange_36
    rw [cI]
    cases hp : post with
    | nil =>
      refine ⟨0, ?_, Or.inl ⟨rfl, fun q post' z => by cases z⟩⟩
      rw [List.append_nil, if_neg (by rw [ofNat_lt (by omega) (by omega)]; omega)]
      rfl
    | cons q post' =>
      have rr : RR s (pre ++ q :: post') := by rw [hp] at r; exact r
      obtain ⟨g7, g8⟩ := rr.at
      have qS := hS.2 q (by rw [hp]; simp)
      have pl : pre.length < (pre ++ q :: post').length := by simp
      have pl2 : (pre ++ q :: post').length ≤ 8 := by rw [← hp]; exact hc
      rw [if_pos (by rw [ofNat_lt (by omega) (by omega)]; omega), ix_ofNat _ (by omega), g7, Option.bind_some, ofNat_add']
      by_cases z : a + l = q.1
      · exact ⟨1, by rw [if_pos (by rw [z])], Or.inr ⟨rfl, q, post', rfl, z⟩⟩
      · exact ⟨0, by rw [if_neg (fun y => z ((nat_eq (by omega) (by omega)).mp y))], Or.inl ⟨rfl, fun q2 post2 y => by cases y; exact z⟩⟩
  obtain ⟨jn, en, hn⟩ := Rr
  rw [en]
  unfold k_releaseRange_63 k_releaseRange_102
  rcases hj with ⟨rfl, nj⟩ | ⟨rfl, p, pre', rfl, pe⟩
  · rw [if_pos rfl, if_pos rfl]
    have E1' : ∀ p ∈ pre, p.1 + p.2 < a := fun p hp => by
      have h1 := E1 p hp
      rcases List.eq_nil_or_concat pre with w | ⟨pre', p2, w⟩
      · rw [w] at hp; cases hp
      · have w' : pre = pre' ++ [p2] := by rw [w]; simp
        have h2 := nj p2 pre' w'
        have h3 := E1 p2 (by rw [w']; simp)
        rw [w'] at hp
        rcases List.mem_append.mp hp with z | z
        · have hS' := (sep_two.mp hS).1
          rw [w'] at hS'
          have := (sep_two.mp hS').2.2 p z p2 (by simp)
          omega
        · rw [List.mem_singleton.mp z]; omega
    obtain ⟨q1, q2, q3⟩ := sep_two.mp hS
    rcases hn with ⟨rfl, nn⟩ | ⟨rfl, q, post', rfl, qe⟩
    · rw [if_pos rfl]
      obtain ⟨s', es, Fs, Rs⟩ := insert_ok r (by omega) (a := a) (l := l) (by omega) (by omega)
      have E2' : ∀ q ∈ post, a + l < q.1 := fun q hq => by
        have h1 := E2 q hq
        cases hp : post with
        | nil => rw [hp] at hq; cases hq
        | cons x r' =>
          have h2 := nn x r' hp
          have h3 := E2 x (by rw [hp]; exact List.mem_cons_self)
          rw [hp] at hq q2
          rcases List.mem_cons.mp hq with z | z
          · rw [z]; omega
          · have := ((sep_mid (pre := [])).mp q2).2.2.2.1 q z
            omega
      refine ⟨s', pre ++ (a, l) :: post, by rw [es, Option.bind_some], Fs, Rs, sep_mid.mpr ⟨q1, q2, E1', E2', q3, hl, hal⟩, fun g => ?_, ?_⟩
      · rw [cov_app, cov_cons, cov_app]
        dsimp only
        constructor
        · rintro (h | h | h)
          · exact Or.inl (Or.inl h)
          · exact Or.inr h
          · exact Or.inl (Or.inr h)
        · rintro ((h | h) | h)
          · exact Or.inl h
          · exact Or.inr (Or.inr h)
          · exact Or.inr (Or.inl h)
      · rw [tot_app, tot_cons, tot_app]; omega
    · rw [if_neg (show ¬ (1 : Int32) = 0 by decide)]
      obtain ⟨g7, g8⟩ := r.at
      obtain ⟨m1, m2, m3, m4, m5, m6, m7⟩ := sep_mid.mp hS
      have r7 := r.set7 (x := a) (by omega)
      have r8 := r7.set8 (x := q.2 + l) (by omega)
      simp only [gA_sA] at r8
      simp only [show ¬ (8 : Nat) = 7 by decide, if_false] at r8
      have pl : pre.length < (pre ++ q :: post').length := by simp
      refine ⟨_, pre ++ (a, q.2 + l) :: post', ?_, ?_, r8, sep_mid.mpr ⟨m1, m2, E1', fun x hx => ?_, m5, by dsimp only; omega, by dsimp only; omega⟩, fun g => ?_, ?_⟩
      · rw [st_ofNat _ _ (by omega) (by rw [r.1]; omega), Option.bind_some, ix_ofNat _ (by omega), g8, Option.bind_some, ofNat_add', st_ofNat _ _ (by omega) (by rw [r.2.1]; omega), Option.bind_some]
      · exact ((Fx.refl ..).sA (by simp)).sA (by simp)
      · have := m4 x hx; dsimp only; omega
      · rw [cov_app, cov_cons, cov_app, cov_cons]
        dsimp only
        constructor
        · rintro (h | h | h)
          · exact Or.inl (Or.inl h)
          · by_cases w : g < a + l
            · exact Or.inr ⟨h.1, w⟩
            · exact Or.inl (Or.inr (Or.inl ⟨by omega, by omega⟩))
          · exact Or.inl (Or.inr (Or.inr h))
        · rintro ((h | h | h) | h)
          · exact Or.inl h
          · exact Or.inr (Or.inl ⟨by omega, by omega⟩)
          · exact Or.inr (Or.inr h)
          · exact Or.inr (Or.inl ⟨by omega, by omega⟩)
      · rw [tot_app, tot_cons, tot_app, tot_cons]; dsimp only; omega
  · rw [if_neg (show ¬ (1 : Int32) = 0 by decide), if_neg (show ¬ (1 : Int32) = 0 by decide)]
    have lp : (pre' ++ [p]).length = pre'.length + 1 := by simp
    have s1 : Int32.ofNat (pre' ++ [p]).length - 1 = Int32.ofNat pre'.length := by rw [lp, ← ofNat_succ]; simp
    have rr : RR s (pre' ++ p :: post) := by rw [List.append_assoc] at r; exact r
    have hS' : Sep (pre' ++ p :: post) := by rw [List.append_assoc] at hS; exact hS
    have cE : ∀ g, cov (pre' ++ [p] ++ post) g ↔ cov (pre' ++ p :: post) g := fun g => by rw [List.append_assoc]; rfl
    have tE : tot (pre' ++ [p] ++ post) = tot (pre' ++ p :: post) := by rw [List.append_assoc]; rfl
    obtain ⟨g7, g8⟩ := rr.at
    obtain ⟨m1, m2, m3, m4, m5, m6, m7⟩ := sep_mid.mp hS'
    have pl : pre'.length < 32 := by rw [hlen, lp] at hc; omega
    rcases hn with ⟨rfl, nn⟩ | ⟨rfl, q, post', rfl, qe⟩
    · rw [if_pos rfl, s1, ix_ofNat _ (by omega), g8, Option.bind_some, ofNat_add', st_ofNat _ _ (by omega) (by rw [r.2.1]; omega), Option.bind_some]
      have E2' : ∀ q ∈ post, a + l < q.1 := fun q hq => by
        have h1 := E2 q hq
        cases hp : post with
        | nil => rw [hp] at hq; cases hq
        | cons x r' =>
          have h2 := nn x r' hp
          have h3 := E2 x (by rw [hp]; exact List.mem_cons_self)
          rw [hp] at hq m2
          rcases List.mem_cons.mp hq with z | z
          · rw [z]; omega
          · have := ((sep_mid (pre := [])).mp m2).2.2.2.1 q z
            omega
      refine ⟨_, pre' ++ (p.1, p.2 + l) :: post, rfl, (Fx.refl ..).sA (by simp), rr.set8 (by omega), sep_mid.mpr ⟨m1, m2, m3, fun x hx => ?_, m5, by dsimp only; omega, by dsimp only; omega⟩, fun g => ?_, ?_⟩
      · have := E2' x hx; dsimp only; omega
      · rw [cE, cov_app, cov_cons, cov_app, cov_cons]
        dsimp only
        constructor
        · rintro (h | h | h)
          · exact Or.inl (Or.inl h)
          · by_cases w : g < a
            · exact Or.inl (Or.inr (Or.inl ⟨by omega, by omega⟩))
            · exact Or.inr ⟨by omega, by omega⟩
          · exact Or.inl (Or.inr (Or.inr h))
        · rintro ((h | h | h) | h)
          · exact Or.inl h
          · exact Or.inr (Or.inl ⟨by omega, by omega⟩)
          · exact Or.inr (Or.inr h)
          · exact Or.inr (Or.inl ⟨by omega, by omega⟩)
      · rw [tE, tot_app, tot_cons, tot_app, tot_cons]; dsimp only; omega
    · rw [if_neg (show ¬ (1 : Int32) = 0 by decide), s1]
      have rq : RR s ((pre' ++ [p]) ++ q :: post') := r
      obtain ⟨q7, q8⟩ := rq.at
      obtain ⟨n1, n2, n3, n4, n5, n6, n7⟩ := sep_mid.mp (show Sep ((pre' ++ [p]) ++ q :: post') from hS)
      have bq := hS.2 q (by simp)
      rw [ix_ofNat _ (by omega), g8, Option.bind_some, ix_ofNat _ (by omega), q8, Option.bind_some, ofNat_add', ofNat_add', st_ofNat _ _ (by omega) (by rw [r.2.1]; omega), Option.bind_some]
      have r8 := rr.set8 (x := p.2 + (l + q.2)) (by omega)
      have r8' : RR (sA s 8 ((gA s 8).set pre'.length (Int32.ofNat (p.2 + (l + q.2))))) ((pre' ++ [(p.1, p.2 + (l + q.2))]) ++ q :: post') := by rw [List.append_assoc]; exact r8
      obtain ⟨s', es, Fs, Rs⟩ := remove_ok r8'
      rw [show (pre' ++ [(p.1, p.2 + (l + q.2))]).length = (pre' ++ [p]).length by simp] at es
      refine ⟨s', pre' ++ (p.1, p.2 + (l + q.2)) :: post', by rw [es, Option.bind_some], (((Fx.refl ..).sA (by simp))).trans Fs, by rw [List.append_assoc] at Rs; exact Rs, sep_mid.mpr ⟨m1, n2, m3, fun x hx => ?_, fun x hx y hy => m5 x hx y (List.mem_cons_of_mem _ hy), by dsimp only; omega, by dsimp only; omega⟩, fun g => ?_, ?_⟩
      · have := n4 x hx; dsimp only; omega
      · rw [cE, cov_app, cov_cons, cov_app, cov_cons, cov_cons]
        dsimp only
        constructor
        · rintro (h | h | h)
          · exact Or.inl (Or.inl h)
          · by_cases w : g < a
            · exact Or.inl (Or.inr (Or.inl ⟨by omega, by omega⟩))
            · by_cases z : g < a + l
              · exact Or.inr ⟨by omega, by omega⟩
              · exact Or.inl (Or.inr (Or.inr (Or.inl ⟨by omega, by omega⟩)))
          · exact Or.inl (Or.inr (Or.inr (Or.inr h)))
        · rintro ((h | h | h | h) | h)
          · exact Or.inl h
          · exact Or.inr (Or.inl ⟨by omega, by omega⟩)
          · exact Or.inr (Or.inl ⟨by omega, by omega⟩)
          · exact Or.inr (Or.inr h)
          · exact Or.inr (Or.inl ⟨by omega, by omega⟩)
      · rw [tE, tot_app, tot_cons, tot_app, tot_cons, tot_cons]; dsimp only; omega
theorem carve_ok {s : S} {pre post : List (Nat × Nat)} {p : Nat × Nat} (r : RR s (pre ++ p :: post)) (hS : Sep (pre ++ p :: post)) {n : Nat} (hn : 0 < n) (hp : n ≤ p.2) : ∃ s' rs', k_carveFront (Int32.ofNat pre.length) (Int32.ofNat n) s = some s' ∧ Fx [7] [] [7, 8] [] s s' ∧ RR s' rs' ∧ Sep rs' ∧ (∀ g, cov rs' g ↔ cov (pre ++ p :: post) g ∧ ¬ (p.1 ≤ g ∧ g < p.1 + n)) ∧ tot rs' + n = tot (pre ++ p :: post) := by
  obtain ⟨g7, g8⟩ := r.at
  obtain ⟨m1, m2, m3, m4, m5, m6, m7⟩ := sep_mid.mp hS
  have hc := sep_len hS
  have pl : pre.length < (pre ++ p :: post).length := by simp
  have r7 := r.set7 (x := p.1 + n) (by omega)
  have r8 := r7.set8 (x := p.2 - n) (by omega)
  simp only [gA_sA] at r8
  simp only [show ¬ (8 : Nat) = 7 by decide, if_false] at r8
  have sb : Int32.ofNat p.2 - Int32.ofNat n = Int32.ofNat (p.2 - n) := by
    have := ofNat_add' (p.2 - n) n
    rw [show p.2 - n + n = p.2 by omega] at this
    rw [← this]; simp
  have cD : ∀ g, (cov pre g ∨ cov post g) → ¬ (p.1 ≤ g ∧ g < p.1 + p.2) := fun g h w => by
    rcases h with ⟨x, hx, h⟩ | ⟨x, hx, h⟩
    · have := m3 x hx; omega
    · have := m4 x hx; omega
  have ev : k_carveFront (Int32.ofNat pre.length) (Int32.ofNat n) s = if 0 < Int32.ofNat (p.2 - n) then some (sA (sA s 7 ((gA s 7).set pre.length (Int32.ofNat (p.1 + n)))) 8 ((gA s 8).set pre.length (Int32.ofNat (p.2 - n)))) else (k_removeRun (Int32.ofNat pre.length) (sA (sA s 7 ((gA s 7).set pre.length (Int32.ofNat (p.1 + n)))) 8 ((gA s 8).set pre.length (Int32.ofNat (p.2 - n))))).bind fun r44 => some r44 := by
    unfold k_carveFront
    rw [if_neg (ofNat_nonneg (by omega)), r.2.2.1, if_pos (by rw [ofNat_lt (by omega) (by omega)]; omega), ix_ofNat _ (by omega), g7, Option.bind_some, ofNat_add', st_ofNat _ _ (by omega) (by rw [r.1]; omega), Option.bind_some, ix_ofNat _ (by omega), g8, Option.bind_some, sb, st_ofNat _ _ (by omega) (by rw [r.2.1]; omega), Option.bind_some, ix_ofNat _ (by omega), List.getElem?_set_self (by rw [r.2.1]; omega), Option.bind_some]
  have F0 : Fx [7] [] [7, 8] [] s (sA (sA s 7 ((gA s 7).set pre.length (Int32.ofNat (p.1 + n)))) 8 ((gA s 8).set pre.length (Int32.ofNat (p.2 - n)))) := ((Fx.refl ..).sA (by simp)).sA (by simp)
  rw [ev]
  by_cases q : p.2 = n
  · rw [if_neg (by rw [q, Nat.sub_self]; decide)]
    obtain ⟨s', es, Fs, Rs⟩ := remove_ok r8
    refine ⟨s', pre ++ post, by rw [es, Option.bind_some], F0.trans Fs, Rs, sep_two.mpr ⟨m1, m2, m5⟩, fun g => ?_, ?_⟩
    · rw [cov_app, cov_app, cov_cons, ← q]
      constructor
      · intro h
        refine ⟨?_, cD g h⟩
        rcases h with h | h
        · exact Or.inl h
        · exact Or.inr (Or.inr h)
      · rintro ⟨h | h | h, w⟩
        · exact Or.inl h
        · exact absurd h w
        · exact Or.inr h
    · rw [tot_app, tot_app, tot_cons]; omega
  · rw [if_pos (by rw [show (0 : Int32) = Int32.ofNat 0 from rfl, ofNat_lt (by omega) (by omega)]; omega)]
    refine ⟨_, pre ++ (p.1 + n, p.2 - n) :: post, rfl, F0, r8, sep_mid.mpr ⟨m1, m2, fun x hx => ?_, fun x hx => ?_, m5, by dsimp only; omega, by dsimp only; omega⟩, fun g => ?_, ?_⟩
    · have := m3 x hx; dsimp only; omega
    · have := m4 x hx; dsimp only; omega
    · rw [cov_app, cov_app, cov_cons, cov_cons]
      dsimp only
      constructor
      · rintro (h | h | h)
        · exact ⟨Or.inl h, fun w => cD g (Or.inl h) (by omega)⟩
        · exact ⟨Or.inr (Or.inl (by omega)), by omega⟩
        · exact ⟨Or.inr (Or.inr h), fun w => cD g (Or.inr h) (by omega)⟩
      · rintro ⟨h | h | h, w⟩
        · exact Or.inl h
        · exact Or.inr (Or.inl (by omega))
        · exact Or.inr (Or.inr h)
    · rw [tot_app, tot_app, tot_cons, tot_cons]; dsimp only; omega
def ug (n : Nat) : Nat := (n + 7) / 8
def span (r n : Nat) : Nat := 2 * r + ug n
theorem ug_ok : ∀ n : Fin 65, (Int32.ofNat n.val + 7) / 8 = Int32.ofNat (ug n.val) ∧ ug n.val ≤ 8 ∧ (1 ≤ n.val → 1 ≤ ug n.val) ∧ Int32.ofNat n.val % 8 = Int32.ofNat (n.val % 8) := by decide +kernel
theorem span_ok {s : S} {r n : Nat} (hr : r ≤ 3) (g1 : gI s 1 = Int32.ofNat r) (hn : n ≤ 64) : k_spanFor (Int32.ofNat n) s = some (Int32.ofNat (span r n)) := by
  obtain ⟨u1, u2, _, _⟩ := ug_ok ⟨n, by omega⟩
  dsimp only at u1 u2
  unfold k_spanFor k_userGranulesFor span
  rw [u1, Option.bind_some, g1]
  have : ∀ r : Fin 4, (2 : Int32) * Int32.ofNat r.val = Int32.ofNat (2 * r.val) := by decide
  rw [this ⟨r, by omega⟩, ofNat_add']
def oS : Option (Nat × Nat × Nat) → Nat
  | none => 0
  | some x => x.1
def oN : Option (Nat × Nat × Nat) → Nat
  | none => 0
  | some x => x.2.1
def oQ : Option (Nat × Nat × Nat) → Nat
  | none => 0
  | some x => x.2.2
def RC (s : S) (ch : Nat → Option (Nat × Nat × Nat)) : Prop := (gA s 3).length = 32 ∧ (gA s 4).length = 32 ∧ (gA s 5).length = 32 ∧ ∀ c, c < 32 → (gA s 3)[c]? = some (Int32.ofNat (oS (ch c))) ∧ (gA s 4)[c]? = some (Int32.ofNat (oN (ch c))) ∧ (gA s 5)[c]? = some (Int32.ofNat (oQ (ch c)))
theorem RC.put {s : S} {ch : Nat → Option (Nat × Nat × Nat)} (h : RC s ch) {c : Nat} (hc : c < 32) (o : Option (Nat × Nat × Nat)) {t : S} (e3 : gA t 3 = (gA s 3).set c (Int32.ofNat (oS o))) (e4 : gA t 4 = (gA s 4).set c (Int32.ofNat (oN o))) (e5 : gA t 5 = (gA s 5).set c (Int32.ofNat (oQ o))) : RC t (aupd ch c o) := by
  obtain ⟨l3, l4, l5, g⟩ := h
  refine ⟨by rw [e3, List.length_set]; exact l3, by rw [e4, List.length_set]; exact l4, by rw [e5, List.length_set]; exact l5, fun x hx => ?_⟩
  rw [e3, e4, e5]
  unfold aupd
  by_cases q : x = c
  · subst q
    rw [if_pos rfl, List.getElem?_set_self (by omega), List.getElem?_set_self (by omega), List.getElem?_set_self (by omega)]
    exact ⟨rfl, rfl, rfl⟩
  · rw [if_neg q, List.getElem?_set_ne (by omega), List.getElem?_set_ne (by omega), List.getElem?_set_ne (by omega)]
    exact g x hx
theorem RC.fx {s t : S} {ch : Nat → Option (Nat × Nat × Nat)} (h : RC s ch) (e3 : gA t 3 = gA s 3) (e4 : gA t 4 = gA s 4) (e5 : gA t 5 = gA s 5) : RC t ch := by
  unfold RC; rw [e3, e4, e5]; exact h
theorem RR.fx {s t : S} {rs : List (Nat × Nat)} (h : RR s rs) (e7 : gA t 7 = gA s 7) (e8 : gA t 8 = gA s 8) (i7 : gI t 7 = gI s 7) : RR t rs := by
  unfold RR; rw [e7, e8, i7]; exact h
def RQ (s : S) (q : List Nat) : Prop := (gA s 6).length = 32 ∧ q.length ≤ 16 ∧ gI s 5 = Int32.ofNat q.length ∧ ∃ h, h < 32 ∧ gI s 4 = Int32.ofNat h ∧ ∀ (i c : Nat), q[i]? = some c → (gA s 6)[(h + i) % 32]? = some (Int32.ofNat c)
theorem RQ.fx {s t : S} {q : List Nat} (h : RQ s q) (e6 : gA t 6 = gA s 6) (i5 : gI t 5 = gI s 5) (i4 : gI t 4 = gI s 4) : RQ t q := by
  unfold RQ; rw [e6, i5, i4]; exact h
theorem valid_yes {c : Nat} (hc : c < 32) : k_validSlot (Int32.ofNat c) = 1 := by
  unfold k_validSlot
  rw [if_neg (ofNat_nonneg (by omega)), if_pos ((lt_lit (m := 32) (by omega) (by decide)).mpr hc)]
theorem and31 : ∀ x : Fin 100, Int32.ofNat x.val &&& 31 = Int32.ofNat (x.val % 32) := by decide +kernel
theorem weight_ok {s : S} {ch : Nat → Option (Nat × Nat × Nat)} (h : RC s ch) {r : Nat} (hr : r ≤ 3) (g1 : gI s 1 = Int32.ofNat r) {c : Nat} (hc : c < 32) (hn : oN (ch c) ≤ 64) : k_weightOf (Int32.ofNat c) s = some (Int32.ofNat (8 * span r (oN (ch c)))) := by
  unfold k_weightOf
  have : ∀ x : Fin 20, (8 : Int32) * Int32.ofNat x.val = Int32.ofNat (8 * x.val) := by decide
  obtain ⟨u1, u2, _, _⟩ := ug_ok ⟨oN (ch c), by omega⟩
  dsimp only at u1 u2
  rw [valid_yes hc, if_neg (by decide), ix_ofNat _ (by omega), (h.2.2.2 c hc).2.1, Option.bind_some, span_ok hr g1 hn, Option.bind_some, this ⟨span r (oN (ch c)), by unfold span; omega⟩]
theorem ugran_ok {s : S} {ch : Nat → Option (Nat × Nat × Nat)} (h : RC s ch) {r : Nat} (g1 : gI s 1 = Int32.ofNat r) {c : Nat} (hc : c < 32) : k_userGranule (Int32.ofNat c) s = some (Int32.ofNat (oS (ch c) + r)) := by
  unfold k_userGranule
  rw [valid_yes hc, if_neg (by decide), ix_ofNat _ (by omega), (h.2.2.2 c hc).1, Option.bind_some, g1, ofNat_add']
theorem mul8 : ∀ x : Fin 20, (8 : Int32) * Int32.ofNat x.val = Int32.ofNat (8 * x.val) := by decide
theorem zero_loop (p n : Nat) : ∀ m j s N, j + m = n → n ≤ 64 → p ≤ 1000 → m < N → gI s 3 = 128 → (gA s 0).length = 256 → ∃ s', k_zeroRequested_16 N (Int32.ofNat p) (Int32.ofNat n) (Int32.ofNat j) s = some s' ∧ Fx [] [] [0] [] s s' ∧ (gA s' 0).length = 256
  | _, _, _, 0, _, _, _, h, _, _ => by omega
  | 0, j, s, N + 1, hj, hn, hp, _, g3, l0 => by
    have : j = n := by omega
    subst this
    exact ⟨s, by rw [k_zeroRequested_16, if_neg (by rw [ofNat_lt (by omega) (by omega)]; omega)], Fx.refl .., l0⟩
  | m + 1, j, s, N + 1, hj, hn, hp, hN, g3, l0 => by
    rw [k_zeroRequested_16, if_pos (by rw [ofNat_lt (by omega) (by omega)]; omega), if_pos ((lt_lit (m := 64) (by omega) (by decide)).mpr (by omega)), ofNat_add', if_neg (ofNat_nonneg (by omega)), g3, ofNat_succ]
    by_cases q : p + j < 128
    · rw [if_pos ((lt_lit (m := 128) (by omega) (by decide)).mpr q), st_ofNat _ _ (by omega) (by omega), Option.bind_some]
      obtain ⟨s', e, F, l⟩ := zero_loop p n m (j + 1) (sA s 0 ((gA s 0).set (p + j) (nar .byte 0))) N (by omega) hn hp (by omega) (by rw [gI_sA]; exact g3) (by rw [gA_sA, if_pos rfl, List.length_set]; exact l0)
      exact ⟨s', e, ((Fx.refl ..).sA (by simp)).trans F, l⟩
    · rw [if_neg (fun z => q ((lt_lit (m := 128) (by omega) (by decide)).mp z))]
      exact zero_loop p n m (j + 1) s N (by omega) hn hp (by omega) g3 l0
def cnt (f : Nat → Int32) (v : Int32) : Nat := (List.range 16).countP fun g => decide (f g = v)
def cin (f : Nat → Int32) (a k : Nat) (v : Int32) : Nat := (List.range' a k).countP fun g => decide (f g = v)
theorem cnt_upd (g : Nat → Int32) (f : Nat) (x v : Int32) : ∀ n, f < n → (List.range n).countP (fun i => decide (aupd g f x i = v)) + (if g f = v then 1 else 0) = (List.range n).countP (fun i => decide (g i = v)) + (if x = v then 1 else 0)
  | 0, h => by omega
  | n + 1, h => by
    rw [List.range_succ, List.countP_append, List.countP_append, List.countP_cons, List.countP_cons, List.countP_nil, List.countP_nil]
    by_cases q : f = n
    · subst q
      have e : (List.range f).countP (fun i => decide (aupd g f x i = v)) = (List.range f).countP (fun i => decide (g i = v)) := by
        apply List.countP_congr
        intro i hi
        have := List.mem_range.mp hi
        unfold aupd
        rw [if_neg (by omega)]
      have e2 : aupd g f x f = x := by unfold aupd; rw [if_pos rfl]
      rw [e, e2]
      simp only [decide_eq_true_eq]
      omega
    · have := cnt_upd g f x v n (by omega)
      have e2 : aupd g f x n = g n := by unfold aupd; rw [if_neg (by omega)]
      rw [e2]
      omega
theorem cin_pnt (f : Nat → Int32) (a : Nat) (w v : Int32) (k : Nat) : ∀ j, j ≤ k → pnt f a w j (a + k) = f (a + k) := fun j hj => by
  rw [pnt_get, if_neg (by omega)]
theorem cnt_pnt (f : Nat → Int32) (a : Nat) (w v : Int32) : ∀ k, a + k ≤ 16 → cnt (pnt f a w k) v + cin f a k v = cnt f v + (if w = v then k else 0)
  | 0, _ => by
    show cnt f v + 0 = _
    split <;> rfl
  | k + 1, h => by
    have ih := cnt_pnt f a w v k (by omega)
    have st := cnt_upd (pnt f a w k) (a + k) w v 16 (by omega)
    rw [cin_pnt f a w v k k (Nat.le_refl _)] at st
    have e : cin f a (k + 1) v = cin f a k v + (if f (a + k) = v then 1 else 0) := by
      unfold cin
      rw [List.range'_concat, List.countP_append, List.countP_cons, List.countP_nil, Nat.one_mul]
      simp only [decide_eq_true_eq, Nat.zero_add]
    change (List.range 16).countP (fun i => decide (aupd (pnt f a w k) (a + k) w i = v)) + cin f a (k + 1) v = _
    rw [e]
    unfold cnt at ih
    unfold cnt
    by_cases q : w = v
    · rw [if_pos q] at ih st ⊢; omega
    · rw [if_neg q] at ih st ⊢; omega
theorem cin_all {f : Nat → Int32} {a k : Nat} {v : Int32} (h : ∀ g, a ≤ g → g < a + k → f g = v) : cin f a k v = k := by
  unfold cin
  have : (List.range' a k).countP (fun g => decide (f g = v)) = (List.range' a k).length := by
    rw [List.countP_eq_length]
    intro g hg
    obtain ⟨i, hi, e⟩ := List.mem_range'.mp hg
    rw [decide_eq_true_eq]
    exact h g (by omega) (by omega)
  rw [this, List.length_range']
theorem cin_none {f : Nat → Int32} {a k : Nat} {v : Int32} (h : ∀ g, a ≤ g → g < a + k → f g ≠ v) : cin f a k v = 0 := by
  unfold cin
  rw [List.countP_eq_zero]
  intro g hg
  obtain ⟨i, hi, e⟩ := List.mem_range'.mp hg
  rw [decide_eq_true_eq]
  exact h g (by omega) (by omega)
theorem cin_add (f : Nat → Int32) (a k l : Nat) (v : Int32) : cin f a (k + l) v = cin f a k v + cin f (a + k) l v := by
  unfold cin
  rw [← List.range'_append, List.countP_append, Nat.one_mul]
def shv (r : Nat) (x : Nat × Nat × Nat) (g : Nat) : Int32 := if g < x.1 + r then 250 else if g < x.1 + r + ug x.2.1 then (if x.2.2 = 1 then (if g + 1 = x.1 + r + ug x.2.1 ∧ x.2.1 % 8 ≠ 0 then Int32.ofNat (x.2.1 % 8) else 0) else 253) else 251
def Chk (r : Nat) (own sh : Nat → Int32) (c : Nat) (x : Nat × Nat × Nat) : Prop := 1 ≤ x.2.1 ∧ x.2.1 ≤ 64 ∧ x.1 + span r x.2.1 ≤ 16 ∧ (x.2.2 = 1 ∨ x.2.2 = 2) ∧ ∀ g, x.1 ≤ g → g < x.1 + span r x.2.1 → own g = Int32.ofNat c ∧ sh g = shv r x g
def usum (ch : Nat → Option (Nat × Nat × Nat)) (q : List Nat) : Nat := (q.map fun c => ug (oN (ch c))).sum
def Iv (r : Nat) (ch : Nat → Option (Nat × Nat × Nat)) (lv q : List Nat) (rs : List (Nat × Nat)) (own sh : Nat → Int32) : Prop :=
  (∀ c x, ch c = some x → c < 32 ∧ Chk r own sh c x) ∧ (∀ g, g < 16 → own g ≠ -1 → ∃ c x, ch c = some x ∧ own g = Int32.ofNat c ∧ x.1 ≤ g ∧ g < x.1 + span r x.2.1) ∧ (∀ g, g < 16 → (own g = -1 ↔ cov rs g)) ∧ (∀ g, g < 16 → own g = -1 → sh g = 254) ∧ (lv.Nodup ∧ q.Nodup ∧ (∀ c, c ∈ lv ↔ ∃ x, ch c = some x ∧ x.2.2 = 1) ∧ (∀ c, c ∈ q ↔ ∃ x, ch c = some x ∧ x.2.2 = 2)) ∧ Sep rs ∧ cnt sh 250 = r * (lv.length + q.length) ∧ cnt sh 251 = r * (lv.length + q.length) ∧ cnt sh 253 = usum ch q ∧ cnt sh 254 = tot rs
theorem enc_ne {c : Nat} (hc : c < 1000) : Int32.ofNat c ≠ -1 := fun e => absurd (show (-1 : Int32) < 0 by decide) (by rw [← e]; exact ofNat_nonneg (by omega))
theorem shv_lt {r : Nat} {x : Nat × Nat × Nat} {g : Nat} : shv r x g ≠ 254 := by
  unfold shv
  have : ∀ n : Fin 8, Int32.ofNat n.val ≠ 254 := by decide
  repeat' split
  all_goals first | decide | exact this ⟨_, Nat.mod_lt _ (by omega)⟩
/-- two chunks lie apart -/
theorem apart {r : Nat} {ch : Nat → Option (Nat × Nat × Nat)} {lv q : List Nat} {rs : List (Nat × Nat)} {own sh : Nat → Int32} (I : Iv r ch lv q rs own sh) {c d : Nat} {x y : Nat × Nat × Nat} (hx : ch c = some x) (hy : ch d = some y) {g : Nat} (gx : x.1 ≤ g ∧ g < x.1 + span r x.2.1) (gy : y.1 ≤ g ∧ g < y.1 + span r y.2.1) : c = d := by
  obtain ⟨hc, _, _, _, _, k⟩ := I.1 c x hx
  obtain ⟨hd, _, _, _, _, l⟩ := I.1 d y hy
  have e := (k g gx.1 gx.2).1
  rw [(l g gy.1 gy.2).1] at e
  exact ((nat_eq (by omega) (by omega)).mp e).symm
theorem cin_shv {r : Nat} {sh : Nat → Int32} {x : Nat × Nat × Nat} (h : ∀ g, x.1 ≤ g → g < x.1 + span r x.2.1 → sh g = shv r x g) (v : Int32) : cin sh x.1 (span r x.2.1) v = (if (250 : Int32) = v then r else 0) + cin sh (x.1 + r) (ug x.2.1) v + (if (251 : Int32) = v then r else 0) := by
  rw [show span r x.2.1 = r + (ug x.2.1 + r) by unfold span; omega, cin_add, cin_add]
  have l1 : cin sh x.1 r v = if (250 : Int32) = v then r else 0 := by
    have e : ∀ g, x.1 ≤ g → g < x.1 + r → sh g = 250 := fun g h1 h2 => by
      rw [h g h1 (by unfold span; omega)]; unfold shv; rw [if_pos h2]
    by_cases q : (250 : Int32) = v
    · rw [if_pos q]; exact cin_all (fun g h1 h2 => by rw [e g h1 h2]; exact q)
    · rw [if_neg q]; exact cin_none (fun g h1 h2 => by rw [e g h1 h2]; exact q)
  have l3 : cin sh (x.1 + r + ug x.2.1) r v = if (251 : Int32) = v then r else 0 := by
    have e : ∀ g, x.1 + r + ug x.2.1 ≤ g → g < x.1 + r + ug x.2.1 + r → sh g = 251 := fun g h1 h2 => by
      rw [h g (by omega) (by unfold span; omega)]; unfold shv; rw [if_neg (by omega), if_neg (by omega)]
    by_cases q : (251 : Int32) = v
    · rw [if_pos q]; exact cin_all (fun g h1 h2 => by rw [e g h1 h2]; exact q)
    · rw [if_neg q]; exact cin_none (fun g h1 h2 => by rw [e g h1 h2]; exact q)
  rw [l1, l3]; omega
theorem iv_evict {r : Nat} {ch : Nat → Option (Nat × Nat × Nat)} {lv q : List Nat} {rs rs' : List (Nat × Nat)} {own sh : Nat → Int32} {c : Nat} {x : Nat × Nat × Nat} (I : Iv r ch lv (c :: q) rs own sh) (hx : ch c = some x) (S' : Sep rs') (cv : ∀ g, cov rs' g ↔ cov rs g ∨ (x.1 ≤ g ∧ g < x.1 + span r x.2.1)) (tt : tot rs' = tot rs + span r x.2.1) : Iv r (aupd ch c none) lv q rs' (pnt own x.1 (-1) (span r x.2.1)) (pnt sh x.1 254 (span r x.2.1)) := by
  obtain ⟨K1, K2, K3, K4, ⟨L1, L2, L3, L4⟩, Sp, n0, n1, n3, n4⟩ := id I
  obtain ⟨hc, x1, x64, x16, xq, xk⟩ := K1 c x hx
  have x2 : x.2.2 = 2 := by
    obtain ⟨y, hy, e⟩ := (L4 c).mp List.mem_cons_self
    rw [hx] at hy; cases hy; exact e
  have nc : c ∉ q := (List.nodup_cons.mp L2).1
  have uS : usum ch (c :: q) = ug x.2.1 + usum ch q := by
    unfold usum; rw [List.map_cons, List.sum_cons, hx]; rfl
  have uS' : usum (aupd ch c none) q = usum ch q := by
    unfold usum
    congr 1
    apply List.map_congr_left
    intro d hd
    unfold aupd
    rw [if_neg (fun e => by rw [e] at hd; exact nc hd)]
  have out : ∀ d y, d ≠ c → ch d = some y → ∀ g, y.1 ≤ g → g < y.1 + span r y.2.1 → ¬ (x.1 ≤ g ∧ g < x.1 + span r x.2.1) := fun d y hd hy g h1 h2 w => hd (apart I hy hx ⟨h1, h2⟩ w)
  have C := fun v => cnt_pnt sh x.1 254 v (span r x.2.1) x16
  have D := cin_shv (fun g h1 h2 => (xk g h1 h2).2)
  have U : ∀ g, x.1 + r ≤ g → g < x.1 + r + ug x.2.1 → sh g = 253 := fun g h1 h2 => by
    rw [(xk g (by omega) (by unfold span; omega)).2]; unfold shv; rw [if_neg (by omega), if_pos h2, x2]; rfl
  refine ⟨fun d y hy => ?_, fun g hg h => ?_, fun g hg => ?_, fun g hg h => ?_, ⟨L1, (List.nodup_cons.mp L2).2, fun d => ?_, fun d => ?_⟩, S', ?_, ?_, ?_, ?_⟩
  · unfold aupd at hy
    by_cases e : d = c
    · rw [if_pos e] at hy; cases hy
    · rw [if_neg e] at hy
      obtain ⟨hd, y1, y64, y16, yq, yk⟩ := K1 d y hy
      refine ⟨hd, y1, y64, y16, yq, fun g h1 h2 => ?_⟩
      rw [pnt_get, pnt_get, if_neg (out d y e hy g h1 h2), if_neg (out d y e hy g h1 h2)]
      exact yk g h1 h2
  · rw [pnt_get] at h
    by_cases w : x.1 ≤ g ∧ g < x.1 + span r x.2.1
    · rw [if_pos w] at h; exact absurd rfl h
    · rw [if_neg w] at h
      obtain ⟨d, y, hy, e, h1, h2⟩ := K2 g hg h
      have dc : d ≠ c := fun z => by rw [z, hx] at hy; cases hy; exact w ⟨h1, h2⟩
      refine ⟨d, y, ?_, ?_, h1, h2⟩
      · unfold aupd; rw [if_neg dc]; exact hy
      · rw [pnt_get, if_neg w]; exact e
  · rw [pnt_get, cv g]
    by_cases w : x.1 ≤ g ∧ g < x.1 + span r x.2.1
    · rw [if_pos w]; exact ⟨fun _ => Or.inr w, fun _ => rfl⟩
    · rw [if_neg w, K3 g hg]
      exact ⟨fun z => Or.inl z, fun z => z.elim (fun y => y) (fun y => absurd y w)⟩
  · rw [pnt_get] at h ⊢
    by_cases w : x.1 ≤ g ∧ g < x.1 + span r x.2.1
    · rw [if_pos w]
    · rw [if_neg w] at h ⊢; exact K4 g hg h
  · rw [L3 d]
    unfold aupd
    by_cases e : d = c
    · rw [if_pos e, e, hx]
      constructor
      · rintro ⟨y, hy, z⟩; cases hy; omega
      · rintro ⟨y, hy, z⟩; cases hy
    · rw [if_neg e]
  · unfold aupd
    by_cases e : d = c
    · rw [if_pos e, e]
      exact ⟨fun z => absurd z nc, fun ⟨y, hy, _⟩ => by cases hy⟩
    · rw [if_neg e, ← L4 d, List.mem_cons]
      exact ⟨fun z => Or.inr z, fun z => z.elim (fun y => absurd y e) (fun y => y)⟩
  · have c1 := C 250
    rw [D 250, cin_none (fun g h1 h2 => by rw [U g h1 h2]; decide), if_pos (show (250 : Int32) = 250 from rfl), if_neg (show ¬ (251 : Int32) = 250 by decide), if_neg (show ¬ (254 : Int32) = 250 by decide)] at c1
    rw [n0, List.length_cons] at c1
    have : r * (lv.length + (q.length + 1)) = r * (lv.length + q.length) + r := by rw [← Nat.add_assoc, Nat.mul_succ]
    omega
  · have c1 := C 251
    rw [D 251, cin_none (fun g h1 h2 => by rw [U g h1 h2]; decide), if_neg (show ¬ (250 : Int32) = 251 by decide), if_pos (show (251 : Int32) = 251 from rfl), if_neg (show ¬ (254 : Int32) = 251 by decide)] at c1
    rw [n1, List.length_cons] at c1
    have : r * (lv.length + (q.length + 1)) = r * (lv.length + q.length) + r := by rw [← Nat.add_assoc, Nat.mul_succ]
    omega
  · have c1 := C 253
    rw [D 253, cin_all U, if_neg (show ¬ (250 : Int32) = 253 by decide), if_neg (show ¬ (251 : Int32) = 253 by decide), if_neg (show ¬ (254 : Int32) = 253 by decide)] at c1
    rw [n3, uS] at c1
    rw [uS']
    omega
  · have c1 := C 254
    rw [cin_none (fun g h1 h2 => by rw [(xk g h1 h2).2]; exact shv_lt), if_pos rfl] at c1
    rw [n4] at c1
    omega
def paintL (sh : Nat → Int32) (r a n : Nat) : Nat → Int32 := if n % 8 = 0 then pnt (pnt (pnt sh a 250 r) (a + r) 0 (ug n)) (a + r + ug n) 251 r else aupd (pnt (pnt (pnt sh a 250 r) (a + r) 0 (ug n)) (a + r + ug n) 251 r) (a + r + ug n - 1) (Int32.ofNat (n % 8))
theorem paintL_get (sh : Nat → Int32) {r a n : Nat} (hn : 1 ≤ ug n) (g : Nat) : paintL sh r a n g = if a ≤ g ∧ g < a + span r n then shv r (a, n, 1) g else sh g := by
  have p3 : ∀ g, pnt (pnt (pnt sh a 250 r) (a + r) 0 (ug n)) (a + r + ug n) 251 r g = if a ≤ g ∧ g < a + span r n then (if g < a + r then 250 else if g < a + r + ug n then 0 else 251) else sh g := fun g => by
    rw [pnt_get, pnt_get, pnt_get]
    unfold span
    by_cases q : a ≤ g ∧ g < a + (2 * r + ug n)
    · rw [if_pos q]
      by_cases w : g < a + r
      · rw [if_pos w, if_neg (by omega), if_neg (by omega), if_pos (by omega)]
      · rw [if_neg w]
        by_cases z : g < a + r + ug n
        · rw [if_pos z, if_neg (by omega), if_pos (by omega)]
        · rw [if_neg z, if_pos (by omega)]
    · rw [if_neg q, if_neg (by omega), if_neg (by omega), if_neg (by omega)]
  unfold paintL shv
  dsimp only
  by_cases t : n % 8 = 0
  · rw [if_pos t, p3]
    by_cases q : a ≤ g ∧ g < a + span r n
    · rw [if_pos q, if_pos q]
      by_cases w : g < a + r
      · rw [if_pos w, if_pos w]
      · rw [if_neg w, if_neg w]
        by_cases z : g < a + r + ug n
        · rw [if_pos z, if_pos z, if_pos rfl, if_neg (fun y => y.2 t)]
        · rw [if_neg z, if_neg z]
    · rw [if_neg q, if_neg q]
  · rw [if_neg t]
    unfold aupd
    by_cases y : g = a + r + ug n - 1
    · rw [if_pos y, if_pos (by unfold span; omega), if_neg (by omega), if_pos (by omega), if_pos rfl, if_pos ⟨by omega, t⟩]
    · rw [if_neg y, p3]
      by_cases q : a ≤ g ∧ g < a + span r n
      · rw [if_pos q, if_pos q]
        by_cases w : g < a + r
        · rw [if_pos w, if_pos w]
        · rw [if_neg w, if_neg w]
          by_cases z : g < a + r + ug n
          · rw [if_pos z, if_pos z, if_pos rfl, if_neg (fun x => y (by omega))]
          · rw [if_neg z, if_neg z]
      · rw [if_neg q, if_neg q]
theorem paintL_cnt (sh : Nat → Int32) {r a n : Nat} (hn : 1 ≤ ug n) (h16 : a + span r n ≤ 16) (w : ∀ g, a ≤ g → g < a + span r n → sh g = 254) : cnt (paintL sh r a n) 250 = cnt sh 250 + r ∧ cnt (paintL sh r a n) 251 = cnt sh 251 + r ∧ cnt (paintL sh r a n) 253 = cnt sh 253 ∧ cnt (paintL sh r a n) 254 + span r n = cnt sh 254 := by
  have sp : span r n = 2 * r + ug n := rfl
  have A : ∀ v, cnt (pnt (pnt (pnt sh a 250 r) (a + r) 0 (ug n)) (a + r + ug n) 251 r) v + (if (254 : Int32) = v then span r n else 0) = cnt sh v + (if (250 : Int32) = v then r else 0) + (if (0 : Int32) = v then ug n else 0) + (if (251 : Int32) = v then r else 0) := fun v => by
    have c1 := cnt_pnt sh a 250 v r (by omega)
    have c2 := cnt_pnt (pnt sh a 250 r) (a + r) 0 v (ug n) (by omega)
    have c3 := cnt_pnt (pnt (pnt sh a 250 r) (a + r) 0 (ug n)) (a + r + ug n) 251 v r (by omega)
    have e1 : ∀ g, a ≤ g → g < a + r → sh g = 254 := fun g h1 h2 => w g h1 (by omega)
    have e2 : ∀ g, a + r ≤ g → g < a + r + ug n → (pnt sh a 250 r) g = 254 := fun g h1 h2 => by rw [pnt_get, if_neg (by omega)]; exact w g (by omega) (by omega)
    have e3 : ∀ g, a + r + ug n ≤ g → g < a + r + ug n + r → (pnt (pnt sh a 250 r) (a + r) 0 (ug n)) g = 254 := fun g h1 h2 => by rw [pnt_get, if_neg (by omega), pnt_get, if_neg (by omega)]; exact w g (by omega) (by omega)
    by_cases q : (254 : Int32) = v
    · rw [if_pos q]
      rw [cin_all (fun g h1 h2 => (e1 g h1 h2).trans q)] at c1
      rw [cin_all (fun g h1 h2 => (e2 g h1 h2).trans q)] at c2
      rw [cin_all (fun g h1 h2 => (e3 g h1 h2).trans q)] at c3
      omega
    · rw [if_neg q]
      rw [cin_none (fun g h1 h2 => by rw [e1 g h1 h2]; exact q)] at c1
      rw [cin_none (fun g h1 h2 => by rw [e2 g h1 h2]; exact q)] at c2
      rw [cin_none (fun g h1 h2 => by rw [e3 g h1 h2]; exact q)] at c3
      omega
  have B : ∀ v, (v = 250 ∨ v = 251 ∨ v = 253 ∨ v = 254) → cnt (paintL sh r a n) v = cnt (pnt (pnt (pnt sh a 250 r) (a + r) 0 (ug n)) (a + r + ug n) 251 r) v := fun v hv => by
    unfold paintL
    by_cases t : n % 8 = 0
    · rw [if_pos t]
    · rw [if_neg t]
      have c := cnt_upd (pnt (pnt (pnt sh a 250 r) (a + r) 0 (ug n)) (a + r + ug n) 251 r) (a + r + ug n - 1) (Int32.ofNat (n % 8)) v 16 (by omega)
      rw [show pnt (pnt (pnt sh a 250 r) (a + r) 0 (ug n)) (a + r + ug n) 251 r (a + r + ug n - 1) = 0 by rw [pnt_get, if_neg (by omega), pnt_get, if_pos (by omega)]] at c
      have small : ∀ n : Fin 8, ¬ Int32.ofNat n.val = 250 ∧ ¬ Int32.ofNat n.val = 251 ∧ ¬ Int32.ofNat n.val = 253 ∧ ¬ Int32.ofNat n.val = 254 := by decide
      obtain ⟨s1, s2, s3, s4⟩ := small ⟨n % 8, Nat.mod_lt _ (by omega)⟩
      have n1 : ¬ Int32.ofNat (n % 8) = v := by
        rcases hv with h | h | h | h <;> rw [h]
        · exact s1
        · exact s2
        · exact s3
        · exact s4
      have n2 : ¬ (0 : Int32) = v := by
        rcases hv with h | h | h | h <;> rw [h] <;> decide
      rw [if_neg n1, if_neg n2] at c
      exact c
  refine ⟨?_, ?_, ?_, ?_⟩
  · rw [B _ (Or.inl rfl)]
    have := A 250
    simpa using this
  · rw [B _ (Or.inr (Or.inl rfl))]
    have := A 251
    simpa using this
  · rw [B _ (Or.inr (Or.inr (Or.inl rfl)))]
    have := A 253
    simpa using this
  · rw [B _ (Or.inr (Or.inr (Or.inr rfl)))]
    have := A 254
    simpa using this
theorem iv_alloc {r : Nat} {ch : Nat → Option (Nat × Nat × Nat)} {lv q : List Nat} {rs rs' : List (Nat × Nat)} {own sh : Nat → Int32} {c a n : Nat} (I : Iv r ch lv q rs own sh) (hc : c < 32) (hx : ch c = none) (n1 : 1 ≤ n) (n64 : n ≤ 64) (h16 : a + span r n ≤ 16) (ca : ∀ g, a ≤ g → g < a + span r n → cov rs g) (S' : Sep rs') (cv : ∀ g, cov rs' g ↔ cov rs g ∧ ¬ (a ≤ g ∧ g < a + span r n)) (tt : tot rs' + span r n = tot rs) : Iv r (aupd ch c (some (a, n, 1))) (c :: lv) q rs' (pnt own a (Int32.ofNat c) (span r n)) (paintL sh r a n) := by
  obtain ⟨K1, K2, K3, K4, ⟨L1, L2, L3, L4⟩, Sp, m0, m1, m3, m4⟩ := id I
  have u1 : 1 ≤ ug n := (ug_ok ⟨n, by omega⟩).2.2.1 n1
  have W : ∀ g, a ≤ g → g < a + span r n → sh g = 254 := fun g h1 h2 => K4 g (by omega) ((K3 g (by omega)).mpr (ca g h1 h2))
  obtain ⟨p0, p1, p3, p4⟩ := paintL_cnt sh u1 h16 W
  have nl : c ∉ lv := fun z => by obtain ⟨y, hy, _⟩ := (L3 c).mp z; rw [hx] at hy; cases hy
  have nq : c ∉ q := fun z => by obtain ⟨y, hy, _⟩ := (L4 c).mp z; rw [hx] at hy; cases hy
  have out : ∀ d y, ch d = some y → ∀ g, y.1 ≤ g → g < y.1 + span r y.2.1 → ¬ (a ≤ g ∧ g < a + span r n) := fun d y hy g h1 h2 w => by
    obtain ⟨hd, _, _, y16, _, yk⟩ := K1 d y hy
    have e := (yk g h1 h2).1
    rw [(K3 g (by omega)).mpr (ca g w.1 w.2)] at e
    exact enc_ne (by omega) e.symm
  refine ⟨fun d y hy => ?_, fun g hg h => ?_, fun g hg => ?_, fun g hg h => ?_, ⟨List.nodup_cons.mpr ⟨nl, L1⟩, L2, fun d => ?_, fun d => ?_⟩, S', ?_, ?_, ?_, ?_⟩
  · unfold aupd at hy
    by_cases e : d = c
    · rw [if_pos e] at hy
      cases hy
      refine ⟨by omega, n1, n64, h16, Or.inl rfl, fun g h1 h2 => ?_⟩
      rw [pnt_get, paintL_get sh u1]
      dsimp only at h1 h2
      rw [if_pos ⟨h1, h2⟩, if_pos ⟨h1, h2⟩, e]
      exact ⟨rfl, rfl⟩
    · rw [if_neg e] at hy
      obtain ⟨hd, y1, y64, y16, yq, yk⟩ := K1 d y hy
      refine ⟨hd, y1, y64, y16, yq, fun g h1 h2 => ?_⟩
      rw [pnt_get, paintL_get sh u1, if_neg (out d y hy g h1 h2), if_neg (out d y hy g h1 h2)]
      exact yk g h1 h2
  · rw [pnt_get] at h
    by_cases w : a ≤ g ∧ g < a + span r n
    · refine ⟨c, (a, n, 1), ?_, ?_, w.1, w.2⟩
      · unfold aupd; rw [if_pos rfl]
      · rw [pnt_get, if_pos w]
    · rw [if_neg w] at h
      obtain ⟨d, y, hy, e, h1, h2⟩ := K2 g hg h
      refine ⟨d, y, ?_, ?_, h1, h2⟩
      · unfold aupd; rw [if_neg (fun z => by rw [z, hx] at hy; cases hy)]; exact hy
      · rw [pnt_get, if_neg w]; exact e
  · rw [pnt_get, cv g]
    by_cases w : a ≤ g ∧ g < a + span r n
    · rw [if_pos w]; exact ⟨fun z => absurd z (enc_ne (by omega)), fun z => absurd w z.2⟩
    · rw [if_neg w, K3 g hg]
      exact ⟨fun z => ⟨z, w⟩, fun z => z.1⟩
  · rw [pnt_get] at h
    by_cases w : a ≤ g ∧ g < a + span r n
    · rw [if_pos w] at h; exact absurd h (enc_ne (by omega))
    · rw [if_neg w] at h
      rw [paintL_get sh u1, if_neg w]; exact K4 g hg h
  · unfold aupd
    rw [List.mem_cons]
    by_cases e : d = c
    · rw [if_pos e]
      exact ⟨fun _ => ⟨_, rfl, rfl⟩, fun _ => Or.inl e⟩
    · rw [if_neg e, ← L3 d]
      exact ⟨fun z => z.elim (fun y => absurd y e) (fun y => y), fun z => Or.inr z⟩
  · unfold aupd
    by_cases e : d = c
    · rw [if_pos e, e]
      exact ⟨fun z => absurd z nq, fun ⟨y, hy, z⟩ => by cases hy; cases z⟩
    · rw [if_neg e]; exact L4 d
  · rw [p0, m0, List.length_cons]
    have : r * (lv.length + 1 + q.length) = r * (lv.length + q.length) + r := by rw [show lv.length + 1 + q.length = (lv.length + q.length) + 1 by omega, Nat.mul_succ]
    omega
  · rw [p1, m1, List.length_cons]
    have : r * (lv.length + 1 + q.length) = r * (lv.length + q.length) + r := by rw [show lv.length + 1 + q.length = (lv.length + q.length) + 1 by omega, Nat.mul_succ]
    omega
  · rw [p3, m3]
    unfold usum
    congr 1
    apply List.map_congr_left
    intro d hd
    unfold aupd
    rw [if_neg (fun e => by rw [e] at hd; exact nq hd)]
  · omega
theorem iv_free {r : Nat} {ch : Nat → Option (Nat × Nat × Nat)} {lv q : List Nat} {rs : List (Nat × Nat)} {own sh : Nat → Int32} {c a n : Nat} (I : Iv r ch lv q rs own sh) (hx : ch c = some (a, n, 1)) : Iv r (aupd ch c (some (a, n, 2))) (lv.erase c) (q ++ [c]) rs own (pnt sh (a + r) 253 (ug n)) ∧ (lv.erase c).length + 1 = lv.length := by
  obtain ⟨K1, K2, K3, K4, ⟨L1, L2, L3, L4⟩, Sp, m0, m1, m3, m4⟩ := id I
  obtain ⟨hc, x1, x64, x16, xq, xk⟩ := K1 c _ hx
  dsimp only at x1 x64 x16 xk
  have cl : c ∈ lv := (L3 c).mpr ⟨_, hx, rfl⟩
  have len : (lv.erase c).length + 1 = lv.length := by
    have := List.length_pos_of_mem cl
    rw [List.length_erase_of_mem cl]; omega
  have nq : c ∉ q := fun z => by obtain ⟨y, hy, e⟩ := (L4 c).mp z; rw [hx] at hy; cases hy; cases e
  have sp : span r n = 2 * r + ug n := rfl
  have out : ∀ d y, d ≠ c → ch d = some y → ∀ g, y.1 ≤ g → g < y.1 + span r y.2.1 → ¬ (a + r ≤ g ∧ g < a + r + ug n) := fun d y hd hy g h1 h2 w => hd (apart I hy hx ⟨h1, h2⟩ ⟨by dsimp only; omega, by dsimp only; omega⟩)
  have small : ∀ g, a + r ≤ g → g < a + r + ug n → sh g ≠ 250 ∧ sh g ≠ 251 ∧ sh g ≠ 253 ∧ sh g ≠ 254 := fun g h1 h2 => by
    rw [(xk g (by omega) (by omega)).2]
    unfold shv
    dsimp only
    rw [if_neg (by omega), if_pos h2, if_pos rfl]
    have sm : ∀ n : Fin 8, Int32.ofNat n.val ≠ 250 ∧ Int32.ofNat n.val ≠ 251 ∧ Int32.ofNat n.val ≠ 253 ∧ Int32.ofNat n.val ≠ 254 := by decide
    split
    · exact sm ⟨n % 8, Nat.mod_lt _ (by omega)⟩
    · decide
  have C := fun v => cnt_pnt sh (a + r) 253 v (ug n) (by omega)
  refine ⟨⟨fun d y hy => ?_, fun g hg h => ?_, K3, fun g hg h => ?_, ⟨List.Nodup.erase c L1, ?_, fun d => ?_, fun d => ?_⟩, Sp, ?_, ?_, ?_, ?_⟩, len⟩
  · unfold aupd at hy
    by_cases e : d = c
    · rw [if_pos e] at hy
      cases hy
      refine ⟨by omega, x1, x64, x16, Or.inr rfl, fun g h1 h2 => ?_⟩
      dsimp only at h1 h2
      rw [e]
      refine ⟨(xk g h1 h2).1, ?_⟩
      rw [pnt_get]
      have xs := (xk g h1 h2).2
      unfold shv at xs ⊢
      dsimp only at xs ⊢
      by_cases w : g < a + r
      · rw [if_pos w] at xs ⊢
        rw [if_neg (by omega)]; exact xs
      · rw [if_neg w] at xs ⊢
        by_cases z : g < a + r + ug n
        · rw [if_pos (by omega), if_pos z, if_neg (by decide)]
        · rw [if_neg z] at xs ⊢
          rw [if_neg (by omega)]; exact xs
    · rw [if_neg e] at hy
      obtain ⟨hd, y1, y64, y16, yq, yk⟩ := K1 d y hy
      refine ⟨hd, y1, y64, y16, yq, fun g h1 h2 => ?_⟩
      rw [pnt_get, if_neg (out d y e hy g h1 h2)]
      exact yk g h1 h2
  · obtain ⟨d, y, hy, e, h1, h2⟩ := K2 g hg h
    by_cases w : d = c
    · rw [w, hx] at hy
      cases hy
      exact ⟨c, (a, n, 2), by unfold aupd; rw [if_pos rfl], by rw [← w]; exact e, h1, h2⟩
    · exact ⟨d, y, by unfold aupd; rw [if_neg w]; exact hy, e, h1, h2⟩
  · rw [pnt_get, if_neg (fun w => by
      have e := (xk g (by omega) (by omega)).1
      rw [h] at e
      exact enc_ne (by omega) e.symm)]
    exact K4 g hg h
  · rw [List.nodup_append]
    exact ⟨L2, by simp, fun x hx y hy => by rw [List.mem_singleton.mp hy]; intro e; rw [e] at hx; exact nq hx⟩
  · rw [List.Nodup.mem_erase_iff L1, L3 d]
    unfold aupd
    by_cases e : d = c
    · rw [if_pos e]
      exact ⟨fun z => absurd e z.1, fun ⟨y, hy, z⟩ => by cases hy; cases z⟩
    · rw [if_neg e]
      exact ⟨fun z => z.2, fun z => ⟨e, z⟩⟩
  · rw [List.mem_append, List.mem_singleton]
    unfold aupd
    by_cases e : d = c
    · rw [if_pos e]
      exact ⟨fun _ => ⟨_, rfl, rfl⟩, fun _ => Or.inr e⟩
    · rw [if_neg e, ← L4 d]
      exact ⟨fun z => z.elim (fun y => y) (fun y => absurd y e), fun z => Or.inl z⟩
  · have c1 := C 250
    rw [cin_none (fun g h1 h2 => (small g h1 h2).1), if_neg (by decide)] at c1
    rw [List.length_append, List.length_singleton, show (lv.erase c).length + (q.length + 1) = lv.length + q.length by omega, ← m0]; omega
  · have c1 := C 251
    rw [cin_none (fun g h1 h2 => (small g h1 h2).2.1), if_neg (by decide)] at c1
    rw [List.length_append, List.length_singleton, show (lv.erase c).length + (q.length + 1) = lv.length + q.length by omega, ← m1]; omega
  · have c1 := C 253
    rw [cin_none (fun g h1 h2 => (small g h1 h2).2.2.1), if_pos rfl, m3] at c1
    have e : usum (aupd ch c (some (a, n, 2))) (q ++ [c]) = usum ch q + ug n := by
      unfold usum
      rw [List.map_append, List.sum_append]
      have e1 : (q.map fun d => ug (oN (aupd ch c (some (a, n, 2)) d))) = q.map fun d => ug (oN (ch d)) := by
        apply List.map_congr_left
        intro d hd
        unfold aupd
        rw [if_neg (fun e => by rw [e] at hd; exact nq hd)]
      rw [e1]
      congr 1
      simp [aupd, oN]
    rw [e]; omega
  · have c1 := C 254
    rw [cin_none (fun g h1 h2 => (small g h1 h2).2.2.2), if_neg (by decide)] at c1
    omega
def RI (r B : Nat) (s : S) (ch : Nat → Option (Nat × Nat × Nat)) (lv q : List Nat) (rs : List (Nat × Nat)) (own sh : Nat → Int32) : Prop :=
  gI s 0 = 16 ∧ gI s 1 = Int32.ofNat r ∧ gI s 2 = Int32.ofNat B ∧ gI s 3 = 128 ∧ (gA s 0).length = 256 ∧ Rf s 1 sh ∧ Rf s 2 own ∧ RC s ch ∧ RQ s q ∧ gI s 6 = Int32.ofNat (8 * (usum ch q + 2 * r * q.length)) ∧ RR s rs ∧ gI s 8 = Int32.ofNat lv.length ∧ Iv r ch lv q rs own sh
theorem cnt_le (f : Nat → Int32) (v : Int32) : cnt f v ≤ 16 := by
  unfold cnt; exact Nat.le_trans List.countP_le_length (by simp)
theorem iv_bound {r : Nat} (hr : 1 ≤ r) {ch : Nat → Option (Nat × Nat × Nat)} {lv q : List Nat} {rs : List (Nat × Nat)} {own sh : Nat → Int32} (I : Iv r ch lv q rs own sh) : lv.length + q.length ≤ 16 ∧ usum ch q ≤ 16 := by
  obtain ⟨K1, K2, K3, K4, _, Sp, m0, m1, m3, m4⟩ := I
  have c0 := cnt_le sh 250
  have c3 := cnt_le sh 253
  have : 1 * (lv.length + q.length) ≤ r * (lv.length + q.length) := Nat.mul_le_mul_right _ hr
  omega
theorem sub_nat {a b : Nat} (h : b ≤ a) : Int32.ofNat a - Int32.ofNat b = Int32.ofNat (a - b) := by
  have := ofNat_add' (a - b) b
  rw [show a - b + b = a by omega] at this
  rw [← this]; simp
theorem evict_ok {r B : Nat} (hr : 1 ≤ r) (hr3 : r ≤ 3) {s : S} {ch : Nat → Option (Nat × Nat × Nat)} {lv q : List Nat} {rs : List (Nat × Nat)} {own sh : Nat → Int32} {c : Nat} (h : RI r B s ch lv (c :: q) rs own sh) : ∃ s' rs' own' sh', k_evictOldest s = some s' ∧ RI r B s' (aupd ch c none) lv q rs' own' sh' ∧ Fx [4, 5, 6, 7] [] [1, 2, 3, 4, 5, 6, 7, 8] [] s s' ∧ own' = pnt own (oS (ch c)) (-1) (span r (oN (ch c))) ∧ sh' = pnt sh (oS (ch c)) 254 (span r (oN (ch c))) := by
  obtain ⟨g0, g1, g2, g3, l0, R1, R2, Rc, Rq, g6, Rr, g8, I⟩ := h
  obtain ⟨b1, b2⟩ := iv_bound hr I
  obtain ⟨K1, K2, K3, K4, ⟨L1, L2, L3, L4⟩, Sp, m0, m1, m3, m4⟩ := id I
  obtain ⟨x, hx, x2⟩ := (L4 c).mp List.mem_cons_self
  obtain ⟨hc, x1, x64, x16, xq, xk⟩ := K1 c x hx
  obtain ⟨q6, q16, q5, hd, hd32, q4, qi⟩ := id Rq
  obtain ⟨rc3, rc4, rc5, rcg⟩ := id Rc
  obtain ⟨ga3, ga4, ga5⟩ := rcg c hc
  rw [hx] at ga3 ga4 ga5
  change (gA s 3)[c]? = some (Int32.ofNat x.1) at ga3
  change (gA s 4)[c]? = some (Int32.ofNat x.2.1) at ga4
  change (gA s 5)[c]? = some (Int32.ofNat x.2.2) at ga5
  have u8 := (ug_ok ⟨x.2.1, by omega⟩).2.1
  have u1 := (ug_ok ⟨x.2.1, by omega⟩).2.2.1 x1
  dsimp only at u8 u1
  have uS : usum ch (c :: q) = ug x.2.1 + usum ch q := by
    unfold usum; rw [List.map_cons, List.sum_cons, hx]; rfl
  have nc : c ∉ q := (List.nodup_cons.mp L2).1
  have uS' : usum (aupd ch c none) q = usum ch q := by
    unfold usum
    congr 1
    apply List.map_congr_left
    intro d hd
    unfold aupd
    rw [if_neg (fun e => by rw [e] at hd; exact nc hd)]
  rw [List.length_cons] at q5 g6 b1 q16
  -- the state behind the ring
  obtain ⟨v, hv⟩ : ∃ v, v = sI (sI (sI (sA s 6 ((gA s 6).set hd (-1))) 4 (Int32.ofNat ((hd + 1) % 32))) 5 (Int32.ofNat q.length)) 6 (Int32.ofNat (8 * (usum ch q + 2 * r * q.length))) := ⟨_, rfl⟩
  have vA : ∀ k, k ≠ 6 → gA v k = gA s k := fun k hk => by rw [hv]; simp only [gA_sI, gA_sA]; rw [if_neg hk]
  have vI : ∀ k, k ≠ 4 → k ≠ 5 → k ≠ 6 → gI v k = gI s k := fun k a b d => by rw [hv]; simp only [gI_sI, gI_sA]; rw [if_neg d, if_neg b, if_neg a]
  have Fv : Fx [4, 5, 6, 7] [] [1, 2, 3, 4, 5, 6, 7, 8] [] s v := by
    have F0 : Fx [4, 5, 6, 7] [] [1, 2, 3, 4, 5, 6, 7, 8] [] s s := Fx.refl ..
    rw [hv]; exact (((F0.sA (by simp)).sI (by simp)).sI (by simp)).sI (by simp)
  have Rqv : RQ v q := by
    refine ⟨by rw [hv]; simp only [gA_sI, gA_sA]; simp [q6], by omega, by rw [hv]; simp [gI_sI], (hd + 1) % 32, Nat.mod_lt _ (by omega), by rw [hv]; simp [gI_sI], fun i d hq => ?_⟩
    have hi := (List.getElem?_eq_some_iff.mp hq).1
    rw [hv]
    simp only [gA_sI, gA_sA, if_true]
    rw [List.getElem?_set_ne (by omega), show ((hd + 1) % 32 + i) % 32 = (hd + (i + 1)) % 32 by omega]
    exact qi (i + 1) d (by rw [List.getElem?_cons_succ]; exact hq)
  have Rcv : RC v ch := Rc.fx (vA 3 (by decide)) (vA 4 (by decide)) (vA 5 (by decide))
  have gv0 : gI v 0 = 16 := by rw [vI 0 (by decide) (by decide) (by decide)]; exact g0
  have gv1 : gI v 1 = Int32.ofNat r := by rw [vI 1 (by decide) (by decide) (by decide)]; exact g1
  have Rr' : RR v rs := Rr.fx (vA 7 (by decide)) (vA 8 (by decide)) (vI 7 (by decide) (by decide) (by decide))
  -- destroy
  obtain ⟨w1, ew1, Fw1, Rw1⟩ := paint_ok (a := x.1) (k := span r x.2.1) x16 254 gv0 (R1.fx (vA 1 (by decide)))
  obtain ⟨w2, ew2, Fw2, Rw2⟩ := owner_ok (a := x.1) (k := span r x.2.1) x16 (-1) (s := w1) (by rw [Fw1.1 0 (by simp)]; exact gv0) ((R2.fx (vA 2 (by decide))).fx (Fw1.2.2.1 2 (by simp)))
  have Rr2 : RR w2 rs := (Rr'.fx (Fw1.2.2.1 7 (by simp)) (Fw1.2.2.1 8 (by simp)) (Fw1.1 7 (by simp))).fx (Fw2.2.2.1 7 (by simp)) (Fw2.2.2.1 8 (by simp)) (Fw2.1 7 (by simp))
  have sp : span r x.2.1 = 2 * r + ug x.2.1 := rfl
  obtain ⟨w3, rs', ew3, Fw3, Rr3, S3, cv, tt⟩ := release_ok Rr2 Sp (a := x.1) (l := span r x.2.1) (by omega) x16 (fun g h1 h2 z => by
    have e := (xk g h1 h2).1
    rw [(K3 g (by omega)).mpr z] at e
    exact enc_ne (by omega) e.symm)
  have I' := iv_evict I hx S3 cv tt
  have n0 : nar .byte (0 : Int32) = 0 := by decide
  have A3 : ∀ k, k ≠ 1 → k ≠ 2 → k ≠ 7 → k ≠ 8 → gA w3 k = gA v k := fun k a b d e => by
    rw [Fw3.2.2.1 k (by simp [d, e]), Fw2.2.2.1 k (by simp [b]), Fw1.2.2.1 k (by simp [a])]
  have I3 : ∀ k, k ≠ 7 → gI w3 k = gI v k := fun k a => by
    rw [Fw3.1 k (by simp [a]), Fw2.1 k (by simp), Fw1.1 k (by simp)]
  have l33 : (gA w3 3).length = 32 := by rw [A3 3 (by decide) (by decide) (by decide) (by decide), vA 3 (by decide)]; exact rc3
  have l34 : (gA w3 4).length = 32 := by rw [A3 4 (by decide) (by decide) (by decide) (by decide), vA 4 (by decide)]; exact rc4
  have l35 : (gA w3 5).length = 32 := by rw [A3 5 (by decide) (by decide) (by decide) (by decide), vA 5 (by decide)]; exact rc5
  obtain ⟨z, hz⟩ : ∃ z, z = sA (sA (sA w3 5 ((gA w3 5).set c 0)) 3 ((gA w3 3).set c 0)) 4 ((gA w3 4).set c 0) := ⟨_, rfl⟩
  have zA : ∀ k, k ≠ 3 → k ≠ 4 → k ≠ 5 → gA z k = gA w3 k := fun k a b d => by rw [hz]; simp only [gA_sA]; rw [if_neg b, if_neg a, if_neg d]
  have zI : ∀ k, gI z k = gI w3 k := fun k => by rw [hz]; simp only [gI_sA]
  have ds : k_destroyChunk (Int32.ofNat c) v = some z := by
    unfold k_destroyChunk
    rw [valid_yes hc, if_neg (by decide), ix_ofNat _ (by omega), vA 3 (by decide), ga3, Option.bind_some, ix_ofNat _ (by omega), vA 4 (by decide), ga4, Option.bind_some, span_ok hr3 gv1 x64, Option.bind_some, ew1, Option.bind_some, ew2, Option.bind_some, ew3, Option.bind_some, n0, st_ofNat _ _ (by omega) (by omega), Option.bind_some, st_ofNat _ _ (by omega) (by omega), Option.bind_some, st_ofNat _ _ (by omega) (by omega), Option.bind_some, ← hz]
  have Fz : Fx [4, 5, 6, 7] [] [1, 2, 3, 4, 5, 6, 7, 8] [] s z := by
    have F3 := ((Fv.trans (Fw1.mono (by simp) (by simp) (by simp) (by simp))).trans (Fw2.mono (by simp) (by simp) (by simp) (by simp))).trans (Fw3.mono (by simp) (by simp) (by simp) (by simp))
    rw [hz]; exact ((F3.sA (by simp)).sA (by simp)).sA (by simp)
  refine ⟨z, rs', pnt own x.1 (-1) (span r x.2.1), pnt sh x.1 254 (span r x.2.1), ?_, ⟨?_, ?_, ?_, ?_, ?_, ?_, ?_, ?_, ?_, ?_, ?_, ?_, I'⟩, Fz, by rw [hx]; rfl, by rw [hx]; rfl⟩
  · unfold k_evictOldest
    have a31 := and31 ⟨hd + 1, by omega⟩
    dsimp only at a31
    have wt : k_weightOf (Int32.ofNat c) (sI (sI (sA s 6 ((gA s 6).set hd (-1))) 4 (Int32.ofNat ((hd + 1) % 32))) 5 (Int32.ofNat q.length)) = some (Int32.ofNat (8 * span r x.2.1)) := by
      have := weight_ok (s := sI (sI (sA s 6 ((gA s 6).set hd (-1))) 4 (Int32.ofNat ((hd + 1) % 32))) 5 (Int32.ofNat q.length)) (ch := ch) (Rc.fx (by simp only [gA_sI, gA_sA]; rfl) (by simp only [gA_sI, gA_sA]; rfl) (by simp only [gA_sI, gA_sA]; rfl)) hr3 (by simp only [gI_sI, gI_sA]; exact g1) hc (by rw [hx]; exact x64)
      rw [hx] at this
      exact this
    have bt : Int32.ofNat (8 * (usum ch (c :: q) + 2 * r * (q.length + 1))) - Int32.ofNat (8 * span r x.2.1) = Int32.ofNat (8 * (usum ch q + 2 * r * q.length)) := by
      have m : 2 * r * (q.length + 1) = 2 * r * q.length + 2 * r := Nat.mul_succ _ _
      rw [sub_nat (by rw [uS, m]; omega), uS, m]
      congr 1
      omega
    have h0 := qi 0 c rfl
    rw [Nat.add_zero, Nat.mod_eq_of_lt hd32] at h0
    have iq : k_isQuarantined (Int32.ofNat c) v = some 1 := by
      unfold k_isQuarantined
      rw [valid_yes hc, if_neg (by decide), ix_ofNat _ (by omega), vA 5 (by decide), ga5, Option.bind_some, x2, if_pos (show Int32.ofNat 2 = 2 from rfl)]
    rw [q5, if_pos (by rw [show (0 : Int32) = Int32.ofNat 0 from rfl, ofNat_lt (by omega) (by omega)]; omega), q4, ix_ofNat _ (by omega), h0, Option.bind_some, st_ofNat _ _ (by omega) (by omega), Option.bind_some, ofNat_succ, a31, show Int32.ofNat (q.length + 1) - 1 = Int32.ofNat q.length from by rw [← ofNat_succ]; simp, wt, Option.bind_some, g6, bt, ← hv, iq, Option.bind_some, if_neg (by decide), ds, Option.bind_some]
  · rw [zI, I3 0 (by decide)]; exact gv0
  · rw [zI, I3 1 (by decide)]; exact gv1
  · rw [zI, I3 2 (by decide), vI 2 (by decide) (by decide) (by decide)]; exact g2
  · rw [zI, I3 3 (by decide), vI 3 (by decide) (by decide) (by decide)]; exact g3
  · rw [zA 0 (by decide) (by decide) (by decide), A3 0 (by decide) (by decide) (by decide) (by decide), vA 0 (by decide)]; exact l0
  · exact ((Rw1.fx (Fw2.2.2.1 1 (by simp))).fx (Fw3.2.2.1 1 (by simp))).fx (zA 1 (by decide) (by decide) (by decide))
  · exact (Rw2.fx (Fw3.2.2.1 2 (by simp))).fx (zA 2 (by decide) (by decide) (by decide))
  · exact (Rcv.fx (A3 3 (by decide) (by decide) (by decide) (by decide)) (A3 4 (by decide) (by decide) (by decide) (by decide)) (A3 5 (by decide) (by decide) (by decide) (by decide))).put hc none (by rw [hz]; simp [gA_sA, oS]) (by rw [hz]; simp [gA_sA, oN]) (by rw [hz]; simp [gA_sA, oQ])
  · exact (Rqv.fx (A3 6 (by decide) (by decide) (by decide) (by decide)) (I3 5 (by decide)) (I3 4 (by decide))).fx (zA 6 (by decide) (by decide) (by decide)) (zI 5) (zI 4)
  · rw [zI, I3 6 (by decide), uS', hv]; simp [gI_sI]
  · exact Rr3.fx (zA 7 (by decide) (by decide) (by decide)) (zA 8 (by decide) (by decide) (by decide)) (zI 7)
  · rw [zI, I3 8 (by decide), vI 8 (by decide) (by decide) (by decide)]; exact g8
def bytesOf (r : Nat) (ch : Nat → Option (Nat × Nat × Nat)) (q : List Nat) : Nat := 8 * (usum ch q + 2 * r * q.length)
theorem trim_loop {r B : Nat} (hr : 1 ≤ r) (hr3 : r ≤ 3) (hB : B ≤ 1000) {lv : List Nat} : ∀ (q : List Nat) (j N : Nat) (s : S) ch rs own sh, j + q.length ≤ 32 → q.length < N → RI r B s ch lv q rs own sh → ∃ s' ch' q' rs' own' sh', k_trimToBudget_2 N (Int32.ofNat j) s = some s' ∧ RI r B s' ch' lv q' rs' own' sh' ∧ Fx [4, 5, 6, 7] [] [1, 2, 3, 4, 5, 6, 7, 8] [] s s' ∧ bytesOf r ch' q' ≤ B ∧ ∃ p, q = p ++ q' ∧ (∀ d, d ∉ p → ch' d = ch d) ∧ (∀ d ∈ p, ch' d = none) ∧ (bytesOf r ch q ≤ B → p = [])
  | _, _, 0, _, _, _, _, _, _, h, _ => by omega
  | q, j, N + 1, s, ch, rs, own, sh, hj, hN, h => by
    obtain ⟨g0, g1, g2, g3, l0, R1, R2, Rc, Rq, g6, Rr, g8, I⟩ := id h
    obtain ⟨b1, b2⟩ := iv_bound hr I
    have rq : 2 * r * q.length ≤ 6 * 16 := Nat.mul_le_mul (by omega) (by omega)
    rw [k_trimToBudget_2, if_pos ((lt_lit (m := 64) (by omega) (by decide)).mpr (by omega)), g2, g6]
    by_cases w : B < bytesOf r ch q
    · rw [if_pos (by rw [ofNat_lt (by omega) (by omega)]; exact w)]
      cases q with
      | nil => unfold bytesOf usum at w; simp at w
      | cons c q =>
        rw [Rq.2.2.1, if_pos (by rw [show (0 : Int32) = Int32.ofNat 0 from rfl, ofNat_lt (by omega) (by omega)]; simp)]
        obtain ⟨s1, rs1, own1, sh1, e1, h1, F1, _, _⟩ := evict_ok hr hr3 h
        rw [e1, Option.bind_some, ofNat_succ]
        rw [List.length_cons] at hj hN
        obtain ⟨s', ch', q', rs', own', sh', e, h', F, bb, p, hp, hd, hn, _⟩ := trim_loop hr hr3 hB q (j + 1) N s1 _ _ _ _ (by omega) (by omega) h1
        refine ⟨s', ch', q', rs', own', sh', e, h', F1.trans F, bb, c :: p, by rw [hp]; rfl, fun d hd' => ?_, fun d hd' => ?_, fun z => absurd z (by omega)⟩
        · rw [hd d (fun z => hd' (List.mem_cons_of_mem _ z))]
          unfold aupd
          rw [if_neg (fun z => hd' (by rw [z]; exact List.mem_cons_self))]
        · by_cases z : d ∈ p
          · exact hn d z
          · rw [hd d z]
            have : d = c := by
              rcases List.mem_cons.mp hd' with y | y
              · exact y
              · exact absurd y z
            unfold aupd
            rw [if_pos this]
    · rw [if_neg (by rw [ofNat_lt (by omega) (by omega)]; exact w)]
      exact ⟨s, ch, q, rs, own, sh, rfl, h, Fx.refl .., by omega, [], rfl, fun _ _ => rfl, fun _ z => (by cases z), fun _ => rfl⟩
theorem room_loop {r B : Nat} (hr : 1 ≤ r) (hr3 : r ≤ 3) {lv : List Nat} {k : Nat} (hk : k ≤ 100) : ∀ (q : List Nat) (j N : Nat) (v : Int32) (s : S) ch rs own sh, j + q.length ≤ 32 → q.length < N → RI r B s ch lv q rs own sh → k_findFitRun (Int32.ofNat k) s = some v → ∃ s' ch' q' rs' own' sh' v', k_findRoom_8 N (Int32.ofNat k) v (Int32.ofNat j) s = some (v', s') ∧ RI r B s' ch' lv q' rs' own' sh' ∧ Fx [4, 5, 6, 7] [] [1, 2, 3, 4, 5, 6, 7, 8] [] s s' ∧ (∃ p, q = p ++ q' ∧ (∀ d, d ∉ p → ch' d = ch d)) ∧ ((v' = -1 ∧ q' = [] ∧ ∀ p ∈ rs', p.2 < k) ∨ ∃ i p, v' = Int32.ofNat i ∧ rs'[i]? = some p ∧ k ≤ p.2)
  | _, _, 0, _, _, _, _, _, _, _, h, _, _ => by omega
  | q, j, N + 1, v, s, ch, rs, own, sh, hj, hN, h, hf => by
    obtain ⟨g0, g1, g2, g3, l0, R1, R2, Rc, Rq, g6, Rr, g8, I⟩ := id h
    rw [k_findRoom_8, if_pos ((lt_lit (m := 64) (by omega) (by decide)).mpr (by omega))]
    rcases fit_ok Rr hk with ⟨e, al⟩ | ⟨i, p, e, ei, ep, _⟩
    · rw [e] at hf
      cases hf
      rw [if_pos (by decide)]
      cases q with
      | nil =>
        rw [Rq.2.2.1, if_neg (by decide)]
        exact ⟨s, ch, [], rs, own, sh, -1, rfl, h, Fx.refl .., ⟨[], rfl, fun _ _ => rfl⟩, Or.inl ⟨rfl, rfl, al⟩⟩
      | cons c q =>
        rw [Rq.2.2.1, if_pos (by rw [show (0 : Int32) = Int32.ofNat 0 from rfl, ofNat_lt (by omega) (by have := Rq.2.1; omega)]; simp)]
        obtain ⟨s1, rs1, own1, sh1, e1, h1, F1, _, _⟩ := evict_ok hr hr3 h
        rw [e1, Option.bind_some, ofNat_succ]
        rw [List.length_cons] at hj hN
        have Rr1 : RR s1 rs1 := h1.2.2.2.2.2.2.2.2.2.2.1
        have fx : ∃ v1, k_findFitRun (Int32.ofNat k) s1 = some v1 := by
          rcases fit_ok Rr1 hk with ⟨e, _⟩ | ⟨i, p, e, _⟩
          · exact ⟨_, e⟩
          · exact ⟨_, e⟩
        obtain ⟨v1, ev⟩ := fx
        rw [ev, Option.bind_some]
        obtain ⟨s', ch', q', rs', own', sh', v', e, h', F, ⟨p, hp, hd⟩, oc⟩ := room_loop hr hr3 hk q (j + 1) N v1 s1 _ _ _ _ (by omega) (by omega) h1 ev
        refine ⟨s', ch', q', rs', own', sh', v', e, h', F1.trans F, ⟨c :: p, by rw [hp]; rfl, fun d hd' => ?_⟩, oc⟩
        rw [hd d (fun z => hd' (List.mem_cons_of_mem _ z))]
        unfold aupd
        rw [if_neg (fun z => hd' (by rw [z]; exact List.mem_cons_self))]
    · rw [e] at hf
      cases hf
      have il : i < rs.length := (List.getElem?_eq_some_iff.mp ei).1
      have r16 := Rr.2.2.2.1
      rw [if_neg (ofNat_nonneg (by omega))]
      exact ⟨s, ch, q, rs, own, sh, _, rfl, h, Fx.refl .., ⟨[], rfl, fun _ _ => rfl⟩, Or.inr ⟨i, p, rfl, ei, ep⟩⟩
theorem room_ok {r B : Nat} (hr : 1 ≤ r) (hr3 : r ≤ 3) {lv : List Nat} {k : Nat} (hk : k ≤ 100) {q : List Nat} {s : S} {ch : Nat → Option (Nat × Nat × Nat)} {rs : List (Nat × Nat)} {own sh : Nat → Int32} (h : RI r B s ch lv q rs own sh) : ∃ s' ch' q' rs' own' sh' v', k_findRoom (Int32.ofNat k) s = some (v', s') ∧ RI r B s' ch' lv q' rs' own' sh' ∧ Fx [4, 5, 6, 7] [] [1, 2, 3, 4, 5, 6, 7, 8] [] s s' ∧ (∃ p, q = p ++ q' ∧ (∀ d, d ∉ p → ch' d = ch d)) ∧ ((v' = -1 ∧ q' = [] ∧ ∀ p ∈ rs', p.2 < k) ∨ ∃ i p, v' = Int32.ofNat i ∧ rs'[i]? = some p ∧ k ≤ p.2) := by
  have Rr : RR s rs := h.2.2.2.2.2.2.2.2.2.2.1
  have q16 : q.length ≤ 16 := h.2.2.2.2.2.2.2.2.1.2.1
  have fx : ∃ v1, k_findFitRun (Int32.ofNat k) s = some v1 := by
    rcases fit_ok Rr hk with ⟨e, _⟩ | ⟨i, p, e, _⟩
    · exact ⟨_, e⟩
    · exact ⟨_, e⟩
  obtain ⟨v1, ev⟩ := fx
  unfold k_findRoom
  rw [ev, Option.bind_some]
  exact room_loop hr hr3 hk q 0 BIG v1 s _ _ _ _ (by omega) (by unfold BIG; omega) h ev
theorem nodup_sub : ∀ {l m : List Nat}, l.Nodup → (∀ x ∈ l, x ∈ m) → l.length ≤ m.length
  | [], _, _, _ => by simp
  | x :: l, m, nd, h => by
    have hx := h x List.mem_cons_self
    have h1 := nodup_sub (l := l) (m := m.erase x) (List.nodup_cons.mp nd).2 (fun y hy => by
      have hy' := h y (List.mem_cons_of_mem _ hy)
      have ne : y ≠ x := fun e => (List.nodup_cons.mp nd).1 (e ▸ hy)
      exact (List.mem_erase_of_ne ne).mpr hy')
    rw [List.length_erase_of_mem hx] at h1
    have := List.length_pos_of_mem hx
    rw [List.length_cons]
    omega
theorem slot_loop {r B : Nat} {lv q : List Nat} {s : S} {ch : Nat → Option (Nat × Nat × Nat)} {rs : List (Nat × Nat)} {own sh : Nat → Int32} (h : RI r B s ch lv q rs own sh) : ∀ m j N, j + m = 32 → m < N → (∀ i, i < j → ch i ≠ none) → (∀ i, i < 32 → ch i ≠ none) ∨ ∃ c, c < 32 ∧ ch c = none ∧ k_findUnusedSlot_2 N (Int32.ofNat j) s = some (Int32.ofNat c)
  | _, _, 0, _, h, _ => by omega
  | 0, j, N + 1, hj, _, b => Or.inl (fun i hi => b i (by omega))
  | m + 1, j, N + 1, hj, hN, b => by
    obtain ⟨g0, g1, g2, g3, l0, R1, R2, Rc, Rq, g6, Rr, g8, I⟩ := id h
    obtain ⟨_, _, a5⟩ := Rc.2.2.2 j (by omega)
    rw [k_findUnusedSlot_2, if_pos ((lt_lit (m := 32) (by omega) (by decide)).mpr (by omega)), ix_ofNat _ (by omega), a5, Option.bind_some]
    cases e : ch j with
    | none => exact Or.inr ⟨j, by omega, e, by rw [if_pos (show Int32.ofNat (oQ none) = 0 from rfl)]⟩
    | some x =>
      obtain ⟨_, _, _, _, xq, _⟩ := I.1 j x e
      have q0 : oQ (some x) = x.2.2 := rfl
      rw [if_neg (show ¬ Int32.ofNat (oQ (some x)) = 0 from fun z => by
        have := (nat_eq (y := 0) (show oQ (some x) < 1000 by rw [q0]; omega) (by omega)).mp z
        rw [q0] at this; omega), ofNat_succ]
      refine slot_loop h m (j + 1) N (by omega) (by omega) ?_
      intro i hi
      by_cases w : i = j
      · rw [w, e]; exact fun z => by cases z
      · exact b i (by omega)
theorem slot_free {r B : Nat} (hr : 1 ≤ r) {lv q : List Nat} {s : S} {ch : Nat → Option (Nat × Nat × Nat)} {rs : List (Nat × Nat)} {own sh : Nat → Int32} (h : RI r B s ch lv q rs own sh) : ∃ c, c < 32 ∧ ch c = none ∧ k_findUnusedSlot s = some (Int32.ofNat c) := by
  obtain ⟨g0, g1, g2, g3, l0, R1, R2, Rc, Rq, g6, Rr, g8, I⟩ := id h
  rcases slot_loop h 32 0 BIG (by omega) (by unfold BIG; omega) (fun i hi => by omega) with z | z
  · exfalso
    obtain ⟨b1, b2⟩ := iv_bound hr I
    obtain ⟨K1, K2, K3, K4, ⟨L1, L2, L3, L4⟩, _⟩ := I
    have := nodup_sub (l := List.range 32) (m := lv ++ q) List.nodup_range (fun x hx => by
      have hx' := List.mem_range.mp hx
      cases e : ch x with
      | none => exact absurd e (z x hx')
      | some y =>
        obtain ⟨_, _, _, _, yq, _⟩ := K1 x y e
        rcases yq with w | w
        · exact List.mem_append_left _ ((L3 x).mpr ⟨y, e, w⟩)
        · exact List.mem_append_right _ ((L4 x).mpr ⟨y, e, w⟩))
    rw [List.length_range, List.length_append] at this
    omega
  · exact z
theorem create_ok {r B : Nat} (hr : 1 ≤ r) (hr3 : r ≤ 3) {lv q : List Nat} {s : S} {ch : Nat → Option (Nat × Nat × Nat)} {rs : List (Nat × Nat)} {own sh : Nat → Int32} {c a n : Nat} (hc : c < 32) (n1 : 1 ≤ n) (n64 : n ≤ 64) (h16 : a + span r n ≤ 16) (g0 : gI s 0 = 16) (g1 : gI s 1 = Int32.ofNat r) (g3 : gI s 3 = 128) (l0 : (gA s 0).length = 256) (R1 : Rf s 1 sh) (R2 : Rf s 2 own) (Rc : RC s ch) (g8 : gI s 8 = Int32.ofNat lv.length) (hlv : lv.length ≤ 16) : ∃ s', k_createChunk (Int32.ofNat c) (Int32.ofNat a) (Int32.ofNat n) s = some (Int32.ofNat (8 * (a + r)), s') ∧ Fx [8] [] [0, 1, 2, 3, 4, 5] [] s s' ∧ Rf s' 1 (paintL sh r a n) ∧ Rf s' 2 (pnt own a (Int32.ofNat c) (span r n)) ∧ RC s' (aupd ch c (some (a, n, 1))) ∧ gI s' 8 = Int32.ofNat (lv.length + 1) ∧ (gA s' 0).length = 256 := by
  obtain ⟨rc3, rc4, rc5, rcg⟩ := id Rc
  obtain ⟨ua, ub, uc, ud⟩ := ug_ok ⟨n, by omega⟩
  dsimp only at ua ub uc ud
  have u1 := uc n1
  have sp : span r n = 2 * r + ug n := rfl
  have nb : nar .byte (1 : Int32) = 1 := by decide
  obtain ⟨t, ht⟩ : ∃ t, t = sA (sA (sA s 3 ((gA s 3).set c (Int32.ofNat a))) 4 ((gA s 4).set c (Int32.ofNat n))) 5 ((gA s 5).set c 1) := ⟨_, rfl⟩
  have tA : ∀ k, k ≠ 3 → k ≠ 4 → k ≠ 5 → gA t k = gA s k := fun k x y z => by rw [ht]; simp only [gA_sA]; rw [if_neg z, if_neg y, if_neg x]
  have tI : ∀ k, gI t k = gI s k := fun k => by rw [ht]; simp only [gI_sA]
  have Ft : Fx [8] [] [0, 1, 2, 3, 4, 5] [] s t := by
    have F0 : Fx [8] [] [0, 1, 2, 3, 4, 5] [] s s := Fx.refl ..
    rw [ht]; exact ((F0.sA (by simp)).sA (by simp)).sA (by simp)
  have Rt : RC t (aupd ch c (some (a, n, 1))) := Rc.put hc (some (a, n, 1)) (by rw [ht]; simp [gA_sA, oS]) (by rw [ht]; simp [gA_sA, oN]) (by rw [ht]; simp [gA_sA, oQ])
  obtain ⟨t3, t4, t5⟩ := Rt.2.2.2 c hc
  have uu : aupd ch c (some (a, n, 1)) c = some (a, n, 1) := by unfold aupd; rw [if_pos rfl]
  rw [uu] at t3 t4 t5
  change (gA t 3)[c]? = some (Int32.ofNat a) at t3
  change (gA t 4)[c]? = some (Int32.ofNat n) at t4
  have tg1 : gI t 1 = Int32.ofNat r := by rw [tI]; exact g1
  obtain ⟨w, ew, Fw, Rw⟩ := owner_ok (a := a) (k := span r n) h16 (Int32.ofNat c) (s := t) (by rw [tI]; exact g0) (R2.fx (tA 2 (by decide) (by decide) (by decide)))
  have wg0 : gI w 0 = 16 := by rw [Fw.1 0 (by simp), tI]; exact g0
  have wg1 : gI w 1 = Int32.ofNat r := by rw [Fw.1 1 (by simp)]; exact tg1
  have Rcw : RC w (aupd ch c (some (a, n, 1))) := Rt.fx (Fw.2.2.1 3 (by simp)) (Fw.2.2.1 4 (by simp)) (Fw.2.2.1 5 (by simp))
  obtain ⟨p1, e1, F1, r1⟩ := paint_ok (a := a) (k := r) (by omega) 250 wg0 ((R1.fx (tA 1 (by decide) (by decide) (by decide))).fx (Fw.2.2.1 1 (by simp)))
  obtain ⟨p2, e2, F2, r2⟩ := paint_ok (a := a + r) (k := ug n) (by omega) 0 (s := p1) (by rw [F1.1 0 (by simp)]; exact wg0) r1
  obtain ⟨p3, e3, F3, r3⟩ := paint_ok (a := a + r + ug n) (k := r) (by omega) 251 (s := p2) (by rw [F2.1 0 (by simp), F1.1 0 (by simp)]; exact wg0) r2
  have F13 : Fx [] [] [1] [] w p3 := (F1.trans F2).trans F3
  have ugr := ugran_ok Rcw wg1 hc
  rw [uu] at ugr
  change k_userGranule (Int32.ofNat c) w = some (Int32.ofNat (a + r)) at ugr
  have w3 : (gA w 3)[c]? = some (Int32.ofNat a) := by rw [Fw.2.2.1 3 (by simp)]; exact t3
  have w4 : (gA w 4)[c]? = some (Int32.ofNat n) := by rw [Fw.2.2.1 4 (by simp)]; exact t4
  have rg : k_rightGranule (Int32.ofNat c) w = some (Int32.ofNat (a + r + ug n)) := by
    unfold k_rightGranule k_userGranulesFor
    rw [valid_yes hc, if_neg (by decide), ix_ofNat _ (by omega), w4, Option.bind_some, ugr, Option.bind_some, ua, Option.bind_some, ofNat_add']
  have pl : ∃ p4, k_paintLiveChunk (Int32.ofNat c) w = some p4 ∧ Fx [] [] [1] [] w p4 ∧ Rf p4 1 (paintL sh r a n) := by
    unfold k_paintLiveChunk k_userGranulesFor paintL
    rw [ix_ofNat _ (by omega), w3, Option.bind_some, ugr, Option.bind_some, rg, Option.bind_some, ix_ofNat _ (by omega), w4, Option.bind_some, ua, Option.bind_some, wg1, e1, Option.bind_some, e2, Option.bind_some, F2.1 1 (by simp), F1.1 1 (by simp), wg1, e3, Option.bind_some, ud]
    by_cases z : n % 8 = 0
    · rw [if_pos (show Int32.ofNat (n % 8) = 0 by rw [z]; rfl), if_pos z]
      exact ⟨p3, rfl, F13, r3⟩
    · rw [if_neg (show ¬ Int32.ofNat (n % 8) = 0 from fun y => z ((nat_eq (y := 0) (by omega) (by omega)).mp y)), if_neg z, ofNat_add', show Int32.ofNat (a + r + ug n) - 1 = Int32.ofNat (a + r + ug n - 1) from sub_nat (b := 1) (by omega), if_neg (ofNat_nonneg (by omega)), F13.1 0 (by simp), wg0, if_pos ((lt_lit (m := 16) (by omega) (by decide)).mpr (by omega)), st_ofNat _ _ (by omega) (by rw [r3.1]; omega), Option.bind_some]
      exact ⟨_, rfl, F13.sA (by simp), r3.put (by omega) _⟩
  obtain ⟨p4, e4, F4, r4⟩ := pl
  have Rc4 : RC p4 (aupd ch c (some (a, n, 1))) := Rcw.fx (F4.2.2.1 3 (by simp)) (F4.2.2.1 4 (by simp)) (F4.2.2.1 5 (by simp))
  have pg1 : gI p4 1 = Int32.ofNat r := by rw [F4.1 1 (by simp)]; exact wg1
  have ug4 := ugran_ok Rc4 pg1 hc
  rw [uu] at ug4
  change k_userGranule (Int32.ofNat c) p4 = some (Int32.ofNat (a + r)) at ug4
  have m8 := mul8 ⟨a + r, by omega⟩
  dsimp only at m8
  have p44 : (gA p4 4)[c]? = some (Int32.ofNat n) := by rw [F4.2.2.1 4 (by simp)]; exact w4
  obtain ⟨z, ez, Fz, lz⟩ := zero_loop (8 * (a + r)) n n 0 p4 BIG (by omega) n64 (by omega) (by unfold BIG; omega) (by rw [F4.1 3 (by simp), Fw.1 3 (by simp), tI]; exact g3) (by rw [F4.2.2.1 0 (by simp), Fw.2.2.1 0 (by simp), tA 0 (by decide) (by decide) (by decide)]; exact l0)
  have ze : k_zeroRequested (Int32.ofNat c) p4 = some z := by
    unfold k_zeroRequested k_userAddressOf
    rw [ug4, Option.bind_some, Option.bind_some, m8, ix_ofNat _ (by omega), p44, Option.bind_some]
    exact ez
  have z8 : gI z 8 = Int32.ofNat lv.length := by rw [Fz.1 8 (by simp), F4.1 8 (by simp), Fw.1 8 (by simp), tI]; exact g8
  have Rcz : RC (sI z 8 (gI z 8 + 1)) (aupd ch c (some (a, n, 1))) := Rc4.fx (by rw [gA_sI]; exact Fz.2.2.1 3 (by simp)) (by rw [gA_sI]; exact Fz.2.2.1 4 (by simp)) (by rw [gA_sI]; exact Fz.2.2.1 5 (by simp))
  have ugz := ugran_ok Rcz (r := r) (by rw [gI_sI, if_neg (by decide), Fz.1 1 (by simp)]; exact pg1) hc
  rw [uu] at ugz
  change k_userGranule (Int32.ofNat c) _ = some (Int32.ofNat (a + r)) at ugz
  refine ⟨sI z 8 (gI z 8 + 1), ?_, ?_, ?_, ?_, Rcz, ?_, ?_⟩
  · unfold k_createChunk k_userAddressOf
    rw [st_ofNat _ _ (by omega) (by omega), Option.bind_some, st_ofNat _ _ (by omega) (by omega), Option.bind_some, nb, st_ofNat _ _ (by omega) (by omega), Option.bind_some, ← ht, span_ok hr3 tg1 n64, Option.bind_some, ew, Option.bind_some, e4, Option.bind_some, ze, Option.bind_some, ugz, Option.bind_some, Option.bind_some, m8]
  · exact ((Ft.trans (Fw.mono (by simp) (by simp) (by simp) (by simp))).trans ((F4.mono (by simp) (by simp) (by simp) (by simp)).trans (Fz.mono (by simp) (by simp) (by simp) (by simp)))).sI (by simp)
  · exact r4.fx (by rw [gA_sI]; exact Fz.2.2.1 1 (by simp))
  · exact (Rw.fx (F4.2.2.1 2 (by simp))).fx (by rw [gA_sI]; exact Fz.2.2.1 2 (by simp))
  · rw [gI_sI, if_pos rfl, z8, ofNat_succ]
  · rw [gA_sI]; exact lz
theorem alloc_ok {r B : Nat} (hr : 1 ≤ r) (hr3 : r ≤ 3) {lv q : List Nat} {s : S} {ch : Nat → Option (Nat × Nat × Nat)} {rs : List (Nat × Nat)} {own sh : Nat → Int32} (h : RI r B s ch lv q rs own sh) {n : Nat} (n1 : 1 ≤ n) (n64 : n ≤ 64) : ∃ s' ch' q' rs' own' sh', Fx [4, 5, 6, 7, 8] [] [0, 1, 2, 3, 4, 5, 6, 7, 8] [] s s' ∧ (∃ p, q = p ++ q' ∧ (∀ d, d ∉ p → ch d ≠ none → ch' d = ch d)) ∧ ((k_alloc (Int32.ofNat n) s = some (-2, s') ∧ q' = [] ∧ RI r B s' ch' lv q' rs' own' sh' ∧ ∀ p ∈ rs', p.2 < span r n) ∨ ∃ c a, k_alloc (Int32.ofNat n) s = some (Int32.ofNat (8 * (a + r)), s') ∧ RI r B s' ch' (c :: lv) q' rs' own' sh' ∧ ch' c = some (a, n, 1)) := by
  obtain ⟨ua, ub, uc, ud⟩ := ug_ok ⟨n, by omega⟩
  dsimp only at ua ub uc ud
  have sp : span r n = 2 * r + ug n := rfl
  have g1 : gI s 1 = Int32.ofNat r := h.2.1
  obtain ⟨t, ch1, q1, rs1, own1, sh1, v, et, ht, Ft, ⟨p, hp, hd⟩, oc⟩ := room_ok hr hr3 (k := span r n) (by omega) h
  have k0 : k_alloc (Int32.ofNat n) s = if v < 0 then some (-2, t) else (k_findUnusedSlot t).bind fun r33 => if r33 < 0 then some (-2, t) else (ix (gA t 7) v).bind fun a51 => (k_carveFront v (Int32.ofNat (span r n)) t).bind fun r57 => (k_createChunk r33 a51 (Int32.ofNat n) r57).bind fun r66 => some (r66.1, r66.2) := by
    unfold k_alloc
    rw [if_neg (fun z => by have := (lt_lit (m := 1) (by omega) (by decide)).mp z; omega), if_neg (fun z => by rw [show (64 : Int32) = Int32.ofNat 64 from rfl, ofNat_lt (by omega) (by omega)] at z; omega), span_ok hr3 g1 n64, Option.bind_some, et, Option.bind_some]
  rcases oc with ⟨rfl, rfl, al⟩ | ⟨i, pp, rfl, ei, ep⟩
  · refine ⟨t, ch1, [], rs1, own1, sh1, Ft.mono (by simp) (by simp) (by simp) (by simp), ⟨p, hp, fun d h1 _ => hd d h1⟩, Or.inl ⟨?_, rfl, ht, al⟩⟩
    rw [k0, if_pos (by decide)]
  · obtain ⟨c, hc, cn, ec⟩ := slot_free hr ht
    obtain ⟨t0, t1, t2, t3, tl0, T1, T2, Tc, Tq, t6, Tr, t8, TI⟩ := id ht
    obtain ⟨b1, b2⟩ := iv_bound hr TI
    have Sp : Sep rs1 := TI.2.2.2.2.2.1
    obtain ⟨pre, post, erl, epl⟩ : ∃ pre post, rs1 = pre ++ pp :: post ∧ pre.length = i := by
      have il := (List.getElem?_eq_some_iff.mp ei).1
      have e := (List.getElem?_eq_some_iff.mp ei).2
      refine ⟨rs1.take i, rs1.drop (i + 1), ?_, by rw [List.length_take]; omega⟩
      rw [← e, List.getElem_cons_drop, List.take_append_drop]
    subst erl
    subst epl
    have hlen := sep_len Sp
    have pl : pre.length < (pre ++ pp :: post).length := by simp
    have pS := Sp.2 pp (by simp)
    obtain ⟨u, rs2, eu, Fu, Ru, Su, cv, tt⟩ := carve_ok Tr Sp (n := span r n) (by omega) ep
    have cvr : ∀ g, pp.1 ≤ g → g < pp.1 + span r n → cov (pre ++ pp :: post) g := fun g h1 h2 => ⟨pp, by simp, h1, by omega⟩
    obtain ⟨w, ew, Fw, W1, W2, Wc, w8, wl⟩ := create_ok (B := B) hr hr3 (lv := lv) (s := u) (q := q1) (rs := rs2) (ch := ch1) (own := own1) (sh := sh1) (c := c) (a := pp.1) (n := n) hc n1 n64 (by omega) (by rw [Fu.1 0 (by simp)]; exact t0) (by rw [Fu.1 1 (by simp)]; exact t1) (by rw [Fu.1 3 (by simp)]; exact t3) (by rw [Fu.2.2.1 0 (by simp)]; exact tl0) (T1.fx (Fu.2.2.1 1 (by simp))) (T2.fx (Fu.2.2.1 2 (by simp))) (Tc.fx (Fu.2.2.1 3 (by simp)) (Fu.2.2.1 4 (by simp)) (Fu.2.2.1 5 (by simp))) (by rw [Fu.1 8 (by simp)]; exact t8) (by omega)
    have I' := iv_alloc TI hc cn n1 n64 (show pp.1 + span r n ≤ 16 by omega) cvr Su cv tt
    have nq : c ∉ q1 := fun z => by
      obtain ⟨y, hy, _⟩ := (TI.2.2.2.2.1.2.2.2 c).mp z
      rw [cn] at hy; cases hy
    have uS : usum (aupd ch1 c (some (pp.1, n, 1))) q1 = usum ch1 q1 := by
      unfold usum
      congr 1
      apply List.map_congr_left
      intro d hd
      unfold aupd
      rw [if_neg (fun e => by rw [e] at hd; exact nq hd)]
    refine ⟨w, aupd ch1 c (some (pp.1, n, 1)), q1, rs2, _, _, ?_, ⟨p, hp, fun d h1 h2 => ?_⟩, Or.inr ⟨c, pp.1, ?_, ⟨?_, ?_, ?_, ?_, wl, W1, W2, Wc, ?_, ?_, ?_, w8, I'⟩, by unfold aupd; rw [if_pos rfl]⟩⟩
    · exact ((Ft.mono (by simp) (by simp) (by simp) (by simp)).trans (Fu.mono (by simp) (by simp) (by simp) (by simp))).trans (Fw.mono (by simp) (by simp) (by simp) (by simp))
    · unfold aupd
      rw [if_neg (fun z => by rw [z] at h2 h1; rw [← hd c h1, cn] at h2; exact h2 rfl)]
      exact hd d h1
    · rw [k0, if_neg (ofNat_nonneg (by omega)), ec, Option.bind_some, if_neg (ofNat_nonneg (by omega)), ix_ofNat _ (by omega), (Tr.at).1, Option.bind_some, eu, Option.bind_some, ew, Option.bind_some]
    · rw [Fw.1 0 (by simp), Fu.1 0 (by simp)]; exact t0
    · rw [Fw.1 1 (by simp), Fu.1 1 (by simp)]; exact t1
    · rw [Fw.1 2 (by simp), Fu.1 2 (by simp)]; exact t2
    · rw [Fw.1 3 (by simp), Fu.1 3 (by simp)]; exact t3
    · exact (Tq.fx (Fu.2.2.1 6 (by simp)) (Fu.1 5 (by simp)) (Fu.1 4 (by simp))).fx (Fw.2.2.1 6 (by simp)) (Fw.1 5 (by simp)) (Fw.1 4 (by simp))
    · rw [Fw.1 6 (by simp), Fu.1 6 (by simp), uS]; exact t6
    · exact Ru.fx (Fw.2.2.1 7 (by simp)) (Fw.2.2.1 8 (by simp)) (Fw.1 7 (by simp))
theorem shr3 : ∀ b : Fin 128, Int32.ofNat b.val >>> ((3 : Int32) &&& 31) = Int32.ofNat (b.val / 8) ∧ Int32.ofNat b.val &&& 7 = Int32.ofNat (b.val % 8) := by decide +kernel
/-- an address of the arena -/
theorem addr_cases (v : Int32) : v < 0 ∨ (¬ v < 0 ∧ ¬ v < 128) ∨ ∃ b, b < 128 ∧ v = Int32.ofNat b := by
  by_cases q : v < 0
  · exact Or.inl q
  · by_cases w : v < 128
    · exact Or.inr (Or.inr ⟨v.toNatClampNeg, clamp_lt (n := 128) q w (by omega), (eq_ofNat q).1⟩)
    · exact Or.inr (Or.inl ⟨q, w⟩)
theorem slotU_ok {r B : Nat} (hr : 1 ≤ r) (hr3 : r ≤ 3) {lv q : List Nat} {s : S} {ch : Nat → Option (Nat × Nat × Nat)} {rs : List (Nat × Nat)} {own sh : Nat → Int32} (h : RI r B s ch lv q rs own sh) (v : Int32) : (k_slotForUserAddress v s = some (-1) ∧ ∀ c x, ch c = some x → v ≠ Int32.ofNat (8 * (x.1 + r))) ∨ ∃ c x, ch c = some x ∧ v = Int32.ofNat (8 * (x.1 + r)) ∧ k_slotForUserAddress v s = some (Int32.ofNat c) := by
  obtain ⟨g0, g1, g2, g3, l0, R1, R2, Rc, Rq, g6, Rr, g8, I⟩ := id h
  have Iall := I
  obtain ⟨K1, K2, K3, K4, ⟨L1, L2, L3, L4⟩, Sp, _⟩ := I
  have pos : ∀ c x, ch c = some x → 8 * (x.1 + r) < 128 := fun c x hx => by
    obtain ⟨_, x1, x64, x16, _, _⟩ := K1 c x hx
    have := (ug_ok ⟨x.2.1, by omega⟩).2.2.1 x1
    dsimp only at this
    unfold span at x16
    omega
  unfold k_slotForUserAddress
  rw [g3]
  rcases addr_cases v with w | ⟨w1, w2⟩ | ⟨b, hb, rfl⟩
  · left
    rw [if_pos w]
    refine ⟨rfl, fun c x hx e => ?_⟩
    rw [e] at w
    exact ofNat_nonneg (by have := pos c x hx; omega) w
  · left
    rw [if_neg w1, if_neg w2]
    refine ⟨rfl, fun c x hx e => w2 ?_⟩
    rw [e]
    have := pos c x hx
    exact (lt_lit (m := 128) (by omega) (by decide)).mpr this
  · obtain ⟨e1, e2⟩ := shr3 ⟨b, hb⟩
    dsimp only at e1 e2
    rw [if_neg (ofNat_nonneg (by omega)), if_pos ((lt_lit (m := 128) (by omega) (by decide)).mpr hb), e2, e1]
    by_cases z : b % 8 = 0
    · rw [if_pos (show Int32.ofNat (b % 8) = 0 by rw [z]; rfl), ix_ofNat _ (by omega), R2.2 (b / 8) (by omega), Option.bind_some]
      by_cases o : own (b / 8) = -1
      · left
        rw [o, show k_validSlot (-1) = 0 by decide, if_pos rfl]
        refine ⟨rfl, fun c x hx e => ?_⟩
        obtain ⟨hc, x1, x64, x16, xq, xk⟩ := K1 c x hx
        have px := pos c x hx
        have e' := (nat_eq (by omega) (by omega)).mp e
        have u1 := (ug_ok ⟨x.2.1, by omega⟩).2.2.1 x1
        dsimp only at u1
        have := (xk (x.1 + r) (by omega) (by unfold span; omega)).1
        rw [show x.1 + r = b / 8 by omega, o] at this
        exact enc_ne (by omega) this.symm
      · obtain ⟨c, x, hx, eo, h1, h2⟩ := K2 (b / 8) (by omega) o
        obtain ⟨hc, x1, x64, x16, xq, xk⟩ := K1 c x hx
        have q5 := (Rc.2.2.2 c hc).2.2
        rw [hx] at q5
        have q0 : oQ (some x) = x.2.2 := rfl
        have ugr := ugran_ok Rc g1 hc
        rw [hx] at ugr
        have s0 : oS (some x) = x.1 := rfl
        rw [eo, valid_yes hc, if_neg (by decide), ix_ofNat _ (by omega), q5, Option.bind_some, if_neg (show ¬ Int32.ofNat (oQ (some x)) = 0 from fun y => by
          have := (nat_eq (y := 0) (show oQ (some x) < 1000 by rw [q0]; omega) (by omega)).mp y
          rw [q0] at this; omega), ugr, Option.bind_some, s0]
        by_cases y : x.1 + r = b / 8
        · right
          rw [if_pos (by rw [y])]
          exact ⟨c, x, hx, by congr 1; omega, rfl⟩
        · left
          rw [if_neg (fun w => y ((nat_eq (by omega) (by omega)).mp w))]
          refine ⟨rfl, fun d y' hy e => ?_⟩
          have py := pos d y' hy
          have e' := (nat_eq (by omega) (by omega)).mp e
          obtain ⟨hd, y1, y64, y16, yq, yk⟩ := K1 d y' hy
          have u1 := (ug_ok ⟨y'.2.1, by omega⟩).2.2.1 y1
          dsimp only at u1
          have dc := apart Iall hy hx (g := b / 8) ⟨by omega, by unfold span; omega⟩ ⟨h1, h2⟩
          rw [dc, hx] at hy
          cases hy
          exact y (by omega)
    · left
      rw [if_neg (show ¬ Int32.ofNat (b % 8) = 0 from fun y => z ((nat_eq (y := 0) (by omega) (by omega)).mp y))]
      refine ⟨rfl, fun c x hx e => ?_⟩
      have px := pos c x hx
      have e' := (nat_eq (by omega) (by omega)).mp e
      omega
theorem stateQ {r B : Nat} {lv q : List Nat} {s : S} {ch : Nat → Option (Nat × Nat × Nat)} {rs : List (Nat × Nat)} {own sh : Nat → Int32} (h : RI r B s ch lv q rs own sh) {c : Nat} {x : Nat × Nat × Nat} (hx : ch c = some x) : k_isQuarantined (Int32.ofNat c) s = some (if x.2.2 = 2 then 1 else 0) ∧ k_isLive (Int32.ofNat c) s = some (if x.2.2 = 1 then 1 else 0) := by
  obtain ⟨g0, g1, g2, g3, l0, R1, R2, Rc, Rq, g6, Rr, g8, I⟩ := id h
  obtain ⟨hc, x1, x64, x16, xq, xk⟩ := I.1 c x hx
  have q5 := (Rc.2.2.2 c hc).2.2
  rw [hx] at q5
  change (gA s 5)[c]? = some (Int32.ofNat x.2.2) at q5
  unfold k_isQuarantined k_isLive
  rw [valid_yes hc, if_neg (show ¬ (1 : Int32) = 0 by decide), if_neg (show ¬ (1 : Int32) = 0 by decide), ix_ofNat _ (by omega), q5, Option.bind_some, Option.bind_some]
  rcases xq with w | w
  · rw [w]; exact ⟨rfl, rfl⟩
  · rw [w]; exact ⟨rfl, rfl⟩
theorem free_ok {r B : Nat} (hr : 1 ≤ r) (hr3 : r ≤ 3) (hB : B ≤ 1000) {lv q : List Nat} {s : S} {ch : Nat → Option (Nat × Nat × Nat)} {rs : List (Nat × Nat)} {own sh : Nat → Int32} (h : RI r B s ch lv q rs own sh) (v : Int32) : (k_free v s = some (2, s) ∧ ∀ c x, ch c = some x → v ≠ Int32.ofNat (8 * (x.1 + r))) ∨ (∃ c x, ch c = some x ∧ x.2.2 = 2 ∧ v = Int32.ofNat (8 * (x.1 + r)) ∧ k_free v s = some (1, s)) ∨ ∃ c a n s' ch' q' rs' own' sh' p, ch c = some (a, n, 1) ∧ v = Int32.ofNat (8 * (a + r)) ∧ k_free v s = some (0, s') ∧ RI r B s' ch' (lv.erase c) q' rs' own' sh' ∧ (lv.erase c).length + 1 = lv.length ∧ Fx [4, 5, 6, 7, 8] [] [1, 2, 3, 4, 5, 6, 7, 8] [] s s' ∧ bytesOf r ch' q' ≤ B ∧ q ++ [c] = p ++ q' ∧ (∀ d, d ∉ p → ch' d = (aupd ch c (some (a, n, 2))) d) ∧ (∀ d ∈ p, ch' d = none) ∧ (bytesOf r (aupd ch c (some (a, n, 2))) (q ++ [c]) ≤ B → p = []) := by
  rcases slotU_ok hr hr3 h v with ⟨e, n⟩ | ⟨c, x, hx, ev, e⟩
  · left
    refine ⟨?_, n⟩
    unfold k_free
    rw [e, Option.bind_some, if_pos (by decide)]
  · right
    obtain ⟨g0, g1, g2, g3, l0, R1, R2, Rc, Rq, g6, Rr, g8, I⟩ := id h
    obtain ⟨b1, b2⟩ := iv_bound hr I
    obtain ⟨hc, x1, x64, x16, xq, xk⟩ := I.1 c x hx
    obtain ⟨sq, sl⟩ := stateQ h hx
    have k0 : k_free v s = if (if x.2.2 = 2 then (1 : Int32) else 0) = 0 then (if (if x.2.2 = 1 then (1 : Int32) else 0) = 0 then some (2, s) else (k_quarantineChunk (Int32.ofNat c) s).bind fun r34 => (k_trimToBudget r34).bind fun r38 => some (0, r38)) else some (1, s) := by
      unfold k_free
      rw [e, Option.bind_some, if_neg (ofNat_nonneg (by omega)), sq, Option.bind_some, sl, Option.bind_some]
    rcases xq with w | w
    · right
      obtain ⟨a, n, st⟩ := x
      dsimp only at w x1 x64 x16 xk ev
      subst w
      obtain ⟨I', len⟩ := iv_free I hx
      obtain ⟨ua, ub, uc, ud⟩ := ug_ok ⟨n, by omega⟩
      dsimp only at ua ub uc ud
      have sp : span r n = 2 * r + ug n := rfl
      obtain ⟨rc3, rc4, rc5, rcg⟩ := id Rc
      obtain ⟨ga3, ga4, ga5⟩ := rcg c hc
      rw [hx] at ga3 ga4 ga5
      change (gA s 3)[c]? = some (Int32.ofNat a) at ga3
      change (gA s 4)[c]? = some (Int32.ofNat n) at ga4
      have n2 : nar .byte (2 : Int32) = 2 := by decide
      obtain ⟨t, ht⟩ : ∃ t, t = sA s 5 ((gA s 5).set c 2) := ⟨_, rfl⟩
      have tA : ∀ k, k ≠ 5 → gA t k = gA s k := fun k hk => by rw [ht, gA_sA, if_neg hk]
      have tI : ∀ k, gI t k = gI s k := fun k => by rw [ht, gI_sA]
      have e3s : (gA s 3).set c (Int32.ofNat a) = gA s 3 := by
        apply List.ext_getElem? fun i => ?_
        by_cases y : c = i
        · subst y; rw [List.getElem?_set_self (by omega), ga3]
        · rw [List.getElem?_set_ne y]
      have e4s : (gA s 4).set c (Int32.ofNat n) = gA s 4 := by
        apply List.ext_getElem? fun i => ?_
        by_cases y : c = i
        · subst y; rw [List.getElem?_set_self (by omega), ga4]
        · rw [List.getElem?_set_ne y]
      have Rt : RC t (aupd ch c (some (a, n, 2))) := Rc.put hc (some (a, n, 2)) (by rw [tA 3 (by decide)]; exact e3s.symm) (by rw [tA 4 (by decide)]; exact e4s.symm) (by rw [ht, gA_sA, if_pos rfl]; rfl)
      have uu : aupd ch c (some (a, n, 2)) c = some (a, n, 2) := by unfold aupd; rw [if_pos rfl]
      have ugr := ugran_ok Rt (r := r) (by rw [tI]; exact g1) hc
      rw [uu] at ugr
      change k_userGranule (Int32.ofNat c) t = some (Int32.ofNat (a + r)) at ugr
      obtain ⟨p1, e1, F1, r1⟩ := paint_ok (a := a + r) (k := ug n) (by omega) 253 (s := t) (by rw [tI]; exact g0) (R1.fx (tA 1 (by decide)))
      have pq : k_paintQuarantined (Int32.ofNat c) t = some p1 := by
        unfold k_paintQuarantined k_userGranulesFor
        rw [ugr, Option.bind_some, ix_ofNat _ (by omega), tA 4 (by decide), ga4, Option.bind_some, ua, Option.bind_some, e1, Option.bind_some]
      obtain ⟨q6, q16, q5, hd, hd32, q4, qi⟩ := id Rq
      have p8 : gI p1 8 - 1 = Int32.ofNat (lv.erase c).length := by
        rw [F1.1 8 (by simp), tI, g8, ← len, ← ofNat_succ]; simp
      obtain ⟨u, hu⟩ : ∃ u, u = sI p1 8 (gI p1 8 - 1) := ⟨_, rfl⟩
      have uA : ∀ k, gA u k = gA p1 k := fun k => by rw [hu, gA_sI]
      have uI : ∀ k, k ≠ 8 → gI u k = gI s k := fun k hk => by rw [hu, gI_sI, if_neg hk, F1.1 k (by simp), tI]
      have u6 : gA u 6 = gA s 6 := by rw [uA, F1.2.2.1 6 (by simp), tA 6 (by decide)]
      obtain ⟨w, hw⟩ : ∃ w, w = sI (sI (sA u 6 ((gA s 6).set ((hd + q.length) % 32) (Int32.ofNat c))) 5 (Int32.ofNat (q.length + 1))) 6 (Int32.ofNat (8 * (usum ch q + 2 * r * q.length) + 8 * span r n)) := ⟨_, rfl⟩
      have m31 := and31 ⟨hd + q.length, by omega⟩
      dsimp only at m31
      have Ru : RC u (aupd ch c (some (a, n, 2))) := Rt.fx (by rw [uA, F1.2.2.1 3 (by simp)]) (by rw [uA, F1.2.2.1 4 (by simp)]) (by rw [uA, F1.2.2.1 5 (by simp)])
      have wt : k_weightOf (Int32.ofNat c) (sI (sA u 6 ((gA s 6).set ((hd + q.length) % 32) (Int32.ofNat c))) 5 (Int32.ofNat (q.length + 1))) = some (Int32.ofNat (8 * span r n)) := by
        have := weight_ok (s := sI (sA u 6 ((gA s 6).set ((hd + q.length) % 32) (Int32.ofNat c))) 5 (Int32.ofNat (q.length + 1))) (Ru.fx (by simp only [gA_sI, gA_sA]; rfl) (by simp only [gA_sI, gA_sA]; rfl) (by simp only [gA_sI, gA_sA]; rfl)) hr3 (r := r) (by simp only [gI_sI, gI_sA]; rw [if_neg (by decide), uI 1 (by decide)]; exact g1) hc (by rw [uu]; exact x64)
        rw [uu] at this
        exact this
      have qc : k_quarantineChunk (Int32.ofNat c) s = some w := by
        unfold k_quarantineChunk
        rw [n2, st_ofNat _ _ (by omega) (by omega), Option.bind_some, ← ht, pq, Option.bind_some, ← hu]
        unfold k_enqueue k_enqueue_13
        rw [uI 5 (by decide), q5, if_pos ((lt_lit (m := 32) (by omega) (by decide)).mpr (by omega)), uI 4 (by decide), q4, ofNat_add', m31, u6, st_ofNat _ _ (by omega) (by rw [q6]; omega), Option.bind_some, ofNat_succ, wt, Option.bind_some, uI 6 (by decide), g6, ofNat_add', ← hw, Option.bind_some]
      have wA : ∀ k, k ≠ 6 → gA w k = gA u k := fun k hk => by rw [hw]; simp only [gA_sI, gA_sA]; rw [if_neg hk]
      have wI : ∀ k, k ≠ 5 → k ≠ 6 → gI w k = gI u k := fun k x y => by rw [hw]; simp only [gI_sI, gI_sA]; rw [if_neg y, if_neg x]
      have nq : c ∉ q := fun z => by
        obtain ⟨y, hy, e⟩ := (I.2.2.2.2.1.2.2.2 c).mp z
        rw [hx] at hy; cases hy; cases e
      have uS : usum (aupd ch c (some (a, n, 2))) (q ++ [c]) = usum ch q + ug n := by
        unfold usum
        rw [List.map_append, List.sum_append]
        have e1 : (q.map fun d => ug (oN (aupd ch c (some (a, n, 2)) d))) = q.map fun d => ug (oN (ch d)) := by
          apply List.map_congr_left
          intro d hd
          unfold aupd
          rw [if_neg (fun e => by rw [e] at hd; exact nq hd)]
        rw [e1]
        congr 1
        simp [aupd, oN]
      have RIw : RI r B w (aupd ch c (some (a, n, 2))) (lv.erase c) (q ++ [c]) rs own (pnt sh (a + r) 253 (ug n)) := by
        refine ⟨by rw [wI 0 (by decide) (by decide), uI 0 (by decide)]; exact g0, by rw [wI 1 (by decide) (by decide), uI 1 (by decide)]; exact g1, by rw [wI 2 (by decide) (by decide), uI 2 (by decide)]; exact g2, by rw [wI 3 (by decide) (by decide), uI 3 (by decide)]; exact g3, by rw [wA 0 (by decide), uA, F1.2.2.1 0 (by simp), tA 0 (by decide)]; exact l0, (r1.fx (uA 1)).fx (wA 1 (by decide)), R2.fx (by rw [wA 2 (by decide), uA, F1.2.2.1 2 (by simp), tA 2 (by decide)]), Ru.fx (wA 3 (by decide)) (wA 4 (by decide)) (wA 5 (by decide)), ⟨?_, ?_, ?_, hd, hd32, ?_, ?_⟩, ?_, Rr.fx (by rw [wA 7 (by decide), uA, F1.2.2.1 7 (by simp), tA 7 (by decide)]) (by rw [wA 8 (by decide), uA, F1.2.2.1 8 (by simp), tA 8 (by decide)]) (by rw [wI 7 (by decide) (by decide), uI 7 (by decide)]), by rw [wI 8 (by decide) (by decide), hu, gI_sI, if_pos rfl]; exact p8, I'⟩
        · rw [hw]; simp only [gA_sI, gA_sA]; simp [q6]
        · rw [List.length_append, List.length_singleton]; omega
        · rw [hw]; simp [gI_sI]
        · rw [wI 4 (by decide) (by decide), uI 4 (by decide)]; exact q4
        · intro i d hi
          rw [hw]
          simp only [gA_sI, gA_sA, if_true]
          have il := (List.getElem?_eq_some_iff.mp hi).1
          rw [List.length_append, List.length_singleton] at il
          rw [get_mid (post := [])] at hi
          by_cases y : i < q.length
          · rw [if_pos y] at hi
            rw [List.getElem?_set_ne (by omega)]
            exact qi i d hi
          · rw [if_neg y, if_pos (by omega)] at hi
            cases hi
            rw [show i = q.length by omega, List.getElem?_set_self (by rw [q6]; omega)]
        · rw [hw, gI_sI, if_pos rfl, uS, List.length_append, List.length_singleton]
          congr 1
          have m : 2 * r * (q.length + 1) = 2 * r * q.length + 2 * r := Nat.mul_succ _ _
          rw [m, sp]; omega
      have Fw : Fx [4, 5, 6, 7, 8] [] [1, 2, 3, 4, 5, 6, 7, 8] [] s w := by
        have F0 : Fx [4, 5, 6, 7, 8] [] [1, 2, 3, 4, 5, 6, 7, 8] [] s t := by rw [ht]; exact (Fx.refl ..).sA (by simp)
        have F2 := F0.trans (F1.mono (by simp) (by simp) (by simp) (by simp))
        rw [hw]
        refine ((Fx.sA ?_ (by simp)).sI (by simp)).sI (by simp)
        rw [hu]; exact F2.sI (by simp)
      obtain ⟨s', ch', q', rs', own', sh', et, h', F', bb, p, hp, hpd, hpn, hpb⟩ := trim_loop hr hr3 hB (q ++ [c]) 0 BIG w _ _ _ _ (by rw [List.length_append, List.length_singleton]; omega) (by rw [List.length_append, List.length_singleton]; unfold BIG; omega) RIw
      refine ⟨c, a, n, s', ch', q', rs', own', sh', p, hx, ev, ?_, h', len, Fw.trans (F'.mono (by simp) (by simp) (by simp) (by simp)), bb, hp, hpd, hpn, hpb⟩
      dsimp only at k0
      rw [k0, if_pos (show (if (1 : Nat) = 2 then (1 : Int32) else 0) = 0 from rfl), if_neg (show ¬ (if (1 : Nat) = 1 then (1 : Int32) else 0) = 0 by decide), qc, Option.bind_some]
      unfold k_trimToBudget
      rw [show (0 : Int32) = Int32.ofNat 0 from rfl, et, Option.bind_some]
    · left
      refine ⟨c, x, hx, w, ev, ?_⟩
      rw [k0, w, if_pos rfl, if_neg (by decide)]
theorem RI.fx {r B : Nat} {lv q : List Nat} {s t : S} {ch : Nat → Option (Nat × Nat × Nat)} {rs : List (Nat × Nat)} {own sh : Nat → Int32} (h : RI r B s ch lv q rs own sh) (F : Fx [10, 11] [9] [0] [] s t) (l0 : (gA t 0).length = 256) : RI r B t ch lv q rs own sh := by
  obtain ⟨g0, g1, g2, g3, _, R1, R2, Rc, Rq, g6, Rr, g8, I⟩ := h
  exact ⟨by rw [F.1 0 (by simp)]; exact g0, by rw [F.1 1 (by simp)]; exact g1, by rw [F.1 2 (by simp)]; exact g2, by rw [F.1 3 (by simp)]; exact g3, l0, R1.fx (F.2.2.1 1 (by simp)), R2.fx (F.2.2.1 2 (by simp)), Rc.fx (F.2.2.1 3 (by simp)) (F.2.2.1 4 (by simp)) (F.2.2.1 5 (by simp)), Rq.fx (F.2.2.1 6 (by simp)) (F.1 5 (by simp)) (F.1 4 (by simp)), by rw [F.1 6 (by simp)]; exact g6, Rr.fx (F.2.2.1 7 (by simp)) (F.2.2.1 8 (by simp)) (F.1 7 (by simp)), by rw [F.1 8 (by simp)]; exact g8, I⟩
def kb (sh : Nat → Int32) (v : Int32) : Int32 := if v < 0 then 5 else if v < 128 then k_kindForShadow (sh (v.toNatClampNeg / 8)) (v &&& 7) else 5
theorem byteKind_ok {s : S} {sh : Nat → Int32} (g3 : gI s 3 = 128) (R1 : Rf s 1 sh) (v : Int32) : k_byteKind v s = some (kb sh v) := by
  unfold k_byteKind kb
  rw [g3]
  by_cases q : v < 0
  · rw [if_pos q, if_pos q]
  · rw [if_neg q, if_neg q]
    by_cases w : v < 128
    · rw [if_pos w, if_pos w]
      have c := clamp_lt (n := 128) q w (by omega)
      have e := (eq_ofNat q).1
      have s3 := (shr3 ⟨v.toNatClampNeg, c⟩).1
      dsimp only at s3
      rw [← e] at s3
      rw [s3, ix_ofNat _ (by omega), R1.2 _ (by omega), Option.bind_some]
    · rw [if_neg w, if_neg w]
theorem acc_loop {s : S} {sh : Nat → Int32} (g3 : gI s 3 = 128) (R1 : Rf s 1 sh) (v : Int32) {n : Nat} (hn : n ≤ 8) : ∀ m j N, j + m = n → m < N → (∀ i, i < j → kb sh (v + Int32.ofNat i) = 0) → (k_checkAccess_2 N v (Int32.ofNat n) (Int32.ofNat j) s = some (0, s) ∧ ∀ i, i < n → kb sh (v + Int32.ofNat i) = 0) ∨ ∃ i, i < n ∧ kb sh (v + Int32.ofNat i) ≠ 0 ∧ (∀ i', i' < i → kb sh (v + Int32.ofNat i') = 0) ∧ k_checkAccess_2 N v (Int32.ofNat n) (Int32.ofNat j) s = some (kb sh (v + Int32.ofNat i), k_recordError (v + Int32.ofNat i) s)
  | _, _, 0, _, h, _ => by omega
  | 0, j, N + 1, hj, _, b => by
    have : j = n := by omega
    subst this
    exact Or.inl ⟨by rw [k_checkAccess_2, if_neg (by rw [ofNat_lt (by omega) (by omega)]; omega)], b⟩
  | m + 1, j, N + 1, hj, hN, b => by
    rw [k_checkAccess_2, if_pos (by rw [ofNat_lt (by omega) (by omega)]; omega), if_pos ((lt_lit (m := 8) (by omega) (by decide)).mpr (by omega)), byteKind_ok g3 R1, Option.bind_some]
    by_cases q : kb sh (v + Int32.ofNat j) = 0
    · rw [if_pos q, ofNat_succ]
      refine acc_loop g3 R1 v hn m (j + 1) N (by omega) (by omega) ?_
      intro i hi
      by_cases w : i = j
      · rw [w]; exact q
      · exact b i (by omega)
    · rw [if_neg q]
      exact Or.inr ⟨j, by omega, q, b, rfl⟩
theorem addr_ix {s : S} (l0 : (gA s 0).length = 256) (v : Int32) (h0 : ¬ v < 0) (h1 : v < 128) : ∃ x, ix (gA s 0) v = some x := by
  have c := clamp_lt (n := 128) h0 h1 (by omega)
  rw [(eq_ofNat h0).1]
  exact ix_some _ (by omega) (by omega)
theorem read_loop {s : S} (g3 : gI s 3 = 128) (l0 : (gA s 0).length = 256) (v : Int32) {n : Nat} (hn : n ≤ 8) : ∀ m j N (x : Int64), j + m = n → m < N → ∃ y, k_readLittleEndian_5 N v (Int32.ofNat n) x (Int32.ofNat j) s = some y
  | _, _, 0, _, _, h => by omega
  | 0, j, N + 1, x, hj, _ => by
    have : j = n := by omega
    subst this
    exact ⟨x, by rw [k_readLittleEndian_5, if_neg (by rw [ofNat_lt (by omega) (by omega)]; omega)]⟩
  | m + 1, j, N + 1, x, hj, hN => by
    rw [k_readLittleEndian_5, if_pos (by rw [ofNat_lt (by omega) (by omega)]; omega), if_pos ((lt_lit (m := 8) (by omega) (by decide)).mpr (by omega)), g3, ofNat_succ]
    by_cases q : v + Int32.ofNat j < 0
    · rw [if_pos q]; exact read_loop g3 l0 v hn m (j + 1) N x (by omega) (by omega)
    · rw [if_neg q]
      by_cases w : v + Int32.ofNat j < 128
      · obtain ⟨y, hy⟩ := addr_ix l0 _ q w
        rw [if_pos w, hy, Option.bind_some]
        exact read_loop g3 l0 v hn m (j + 1) N _ (by omega) (by omega)
      · rw [if_neg w]; exact read_loop g3 l0 v hn m (j + 1) N x (by omega) (by omega)
theorem write_loop (v : Int32) (x : Int64) {n : Nat} (hn : n ≤ 8) : ∀ m j N s, j + m = n → m < N → gI s 3 = 128 → (gA s 0).length = 256 → ∃ s', k_writeLittleEndian_3 N v (Int32.ofNat n) x (Int32.ofNat j) s = some s' ∧ Fx [] [] [0] [] s s' ∧ (gA s' 0).length = 256
  | _, _, 0, _, _, h, _, _ => by omega
  | 0, j, N + 1, s, hj, _, _, l0 => by
    have : j = n := by omega
    subst this
    exact ⟨s, by rw [k_writeLittleEndian_3, if_neg (by rw [ofNat_lt (by omega) (by omega)]; omega)], Fx.refl .., l0⟩
  | m + 1, j, N + 1, s, hj, hN, g3, l0 => by
    rw [k_writeLittleEndian_3, if_pos (by rw [ofNat_lt (by omega) (by omega)]; omega), if_pos ((lt_lit (m := 8) (by omega) (by decide)).mpr (by omega)), g3, ofNat_succ]
    by_cases q : v + Int32.ofNat j < 0
    · rw [if_pos q]; exact write_loop v x hn m (j + 1) N s (by omega) (by omega) g3 l0
    · rw [if_neg q]
      by_cases w : v + Int32.ofNat j < 128
      · have c := clamp_lt (n := 128) q w (by omega)
        rw [if_pos w, st_nat _ q (by omega), Option.bind_some]
        obtain ⟨s', e, F, l⟩ := write_loop v x hn m (j + 1) N (sA s 0 ((gA s 0).set (v + Int32.ofNat j).toNatClampNeg (nar .byte ((((XT.ushrL x ((8 : Int32) * Int32.ofNat j)) &&& (255 : Int64)).toInt32).toInt8.toInt32)))) (by omega) (by omega) (by rw [gI_sA]; exact g3) (by rw [gA_sA, if_pos rfl, List.length_set]; exact l0)
        exact ⟨s', e, ((Fx.refl ..).sA (by simp)).trans F, l⟩
      · rw [if_neg w]; exact write_loop v x hn m (j + 1) N s (by omega) (by omega) g3 l0
/-- what an access of n bytes at v answers: the state behind it shows the same arena -/
theorem load_ok {r B : Nat} {lv q : List Nat} {s : S} {ch : Nat → Option (Nat × Nat × Nat)} {rs : List (Nat × Nat)} {own sh : Nat → Int32} (h : RI r B s ch lv q rs own sh) (v : Int32) {n : Nat} (hn : n = 1 ∨ n = 2 ∨ n = 4 ∨ n = 8) : (∃ y, k_load v (Int32.ofNat n) s = some (0, sL s 9 y) ∧ k_readLittleEndian v (Int32.ofNat n) s = some y ∧ ∀ i, i < n → kb sh (v + Int32.ofNat i) = 0) ∨ ∃ i, i < n ∧ kb sh (v + Int32.ofNat i) ≠ 0 ∧ (∀ i', i' < i → kb sh (v + Int32.ofNat i') = 0) ∧ k_load v (Int32.ofNat n) s = some (kb sh (v + Int32.ofNat i), k_recordError (v + Int32.ofNat i) s) := by
  obtain ⟨g0, g1, g2, g3, l0, R1, R2, Rc, Rq, g6, Rr, g8, I⟩ := h
  have sz : k_isAccessSize (Int32.ofNat n) = 1 := by rcases hn with h | h | h | h <;> rw [h] <;> decide
  unfold k_load k_checkAccess k_readLittleEndian
  rw [sz, if_neg (by decide), show (0 : Int32) = Int32.ofNat 0 from rfl]
  rcases acc_loop g3 R1 v (n := n) (by omega) n 0 BIG (by omega) (by unfold BIG; omega) (fun i hi => by omega) with ⟨e, al⟩ | ⟨i, hi, k, b, e⟩
  · left
    obtain ⟨y, hy⟩ := read_loop g3 l0 v (n := n) (by omega) n 0 BIG 0 (by omega) (by unfold BIG; omega)
    refine ⟨y, ?_, hy, al⟩
    rw [e, Option.bind_some]
    dsimp only
    rw [if_pos (show (0 : Int32) = Int32.ofNat 0 from rfl), hy, Option.bind_some]
  · right
    refine ⟨i, hi, k, b, ?_⟩
    rw [e, Option.bind_some]
    dsimp only
    rw [if_neg (show ¬ kb sh (v + Int32.ofNat i) = Int32.ofNat 0 from k)]
theorem store_ok {r B : Nat} {lv q : List Nat} {s : S} {ch : Nat → Option (Nat × Nat × Nat)} {rs : List (Nat × Nat)} {own sh : Nat → Int32} (h : RI r B s ch lv q rs own sh) (v : Int32) (x : Int64) {n : Nat} (hn : n = 1 ∨ n = 2 ∨ n = 4 ∨ n = 8) : (∃ s', k_store v (Int32.ofNat n) x s = some (0, s') ∧ k_writeLittleEndian v (Int32.ofNat n) x s = some s' ∧ Fx [] [] [0] [] s s' ∧ (gA s' 0).length = 256 ∧ ∀ i, i < n → kb sh (v + Int32.ofNat i) = 0) ∨ ∃ i, i < n ∧ kb sh (v + Int32.ofNat i) ≠ 0 ∧ (∀ i', i' < i → kb sh (v + Int32.ofNat i') = 0) ∧ k_store v (Int32.ofNat n) x s = some (kb sh (v + Int32.ofNat i), k_recordError (v + Int32.ofNat i) s) := by
  obtain ⟨g0, g1, g2, g3, l0, R1, R2, Rc, Rq, g6, Rr, g8, I⟩ := h
  have sz : k_isAccessSize (Int32.ofNat n) = 1 := by rcases hn with h | h | h | h <;> rw [h] <;> decide
  unfold k_store k_checkAccess k_writeLittleEndian
  rw [sz, if_neg (by decide), show (0 : Int32) = Int32.ofNat 0 from rfl]
  rcases acc_loop g3 R1 v (n := n) (by omega) n 0 BIG (by omega) (by unfold BIG; omega) (fun i hi => by omega) with ⟨e, al⟩ | ⟨i, hi, k, b, e⟩
  · left
    obtain ⟨s', hs, F, l⟩ := write_loop v x (n := n) (by omega) n 0 BIG s (by omega) (by unfold BIG; omega) g3 l0
    refine ⟨s', ?_, hs, F, l, al⟩
    rw [e, Option.bind_some]
    dsimp only
    rw [if_pos (show (0 : Int32) = Int32.ofNat 0 from rfl), hs, Option.bind_some]
  · right
    refine ⟨i, hi, k, b, ?_⟩
    rw [e, Option.bind_some]
    dsimp only
    rw [if_neg (show ¬ kb sh (v + Int32.ofNat i) = Int32.ofNat 0 from k)]
theorem rec_fx (v : Int32) (s : S) : Fx [10, 11] [9] [0] [] s (k_recordError v s) := by
  unfold k_recordError
  exact ((Fx.refl ..).sI (by simp)).sI (by simp)
theorem shadow_ok {r B : Nat} {lv q : List Nat} {s : S} {ch : Nat → Option (Nat × Nat × Nat)} {rs : List (Nat × Nat)} {own sh : Nat → Int32} (h : RI r B s ch lv q rs own sh) {g : Nat} (hg : g < 16) : k_shadow (Int32.ofNat g) s = some (sh g) := by
  obtain ⟨g0, g1, g2, g3, l0, R1, R2, Rc, Rq, g6, Rr, g8, I⟩ := h
  unfold k_shadow
  rw [if_neg (ofNat_nonneg (by omega)), g0, if_pos ((lt_lit (m := 16) (by omega) (by decide)).mpr hg), ix_ofNat _ (by omega), R1.2 g hg, Option.bind_some]
def maxR (a : Nat) : List (Nat × Nat) → Nat
  | [] => a
  | p :: l => maxR (if a < p.2 then p.2 else a) l
theorem big_loop {s : S} {rs : List (Nat × Nat)} (R : RR s rs) : ∀ m j N a, j + m = rs.length → m < N → a ≤ 16 → k_largestFreeRun_4 N (Int32.ofNat a) (Int32.ofNat j) s = some (Int32.ofNat (maxR a (rs.drop j)))
  | _, _, 0, _, _, h, _ => by omega
  | 0, j, N + 1, a, hj, _, ha => by
    have := R.2.2.2.1
    rw [k_largestFreeRun_4, R.2.2.1, if_neg (by rw [ofNat_lt (by omega) (by omega)]; omega), List.drop_of_length_le (by omega)]
    rfl
  | m + 1, j, N + 1, a, hj, hN, ha => by
    have r16 := R.2.2.2.1
    have hj' : j < rs.length := by omega
    have ej : rs[j]? = some rs[j] := List.getElem?_eq_getElem hj'
    have g8 := (R.2.2.2.2.1 j _ ej).2
    have pj := R.2.2.2.2.2 _ (List.mem_of_getElem? ej)
    rw [k_largestFreeRun_4, R.2.2.1, if_pos (by rw [ofNat_lt (by omega) (by omega)]; omega), if_pos ((lt_lit (m := 32) (by omega) (by decide)).mpr (by omega)), ix_ofNat _ (by omega), g8, Option.bind_some, Option.bind_some, ofNat_succ, List.drop_eq_getElem_cons hj']
    unfold maxR
    by_cases q : a < rs[j].2
    · rw [if_pos (by rw [ofNat_lt (by omega) (by omega)]; exact q), if_pos q]
      exact big_loop R m (j + 1) N _ (by omega) (by omega) (by omega)
    · rw [if_neg (by rw [ofNat_lt (by omega) (by omega)]; exact q), if_neg q]
      exact big_loop R m (j + 1) N _ (by omega) (by omega) ha
theorem big_ok {r B : Nat} {lv q : List Nat} {s : S} {ch : Nat → Option (Nat × Nat × Nat)} {rs : List (Nat × Nat)} {own sh : Nat → Int32} (h : RI r B s ch lv q rs own sh) : k_largestFreeRun s = some (Int32.ofNat (maxR 0 rs)) := by
  have Rr : RR s rs := h.2.2.2.2.2.2.2.2.2.2.1
  have := Rr.2.2.2.1
  exact big_loop Rr rs.length 0 BIG 0 (by omega) (by unfold BIG; omega) (by omega)
theorem maxR_spec : ∀ (rs : List (Nat × Nat)) a, a ≤ maxR a rs ∧ (∀ p ∈ rs, p.2 ≤ maxR a rs) ∧ (maxR a rs = a ∨ ∃ p ∈ rs, maxR a rs = p.2)
  | [], a => ⟨Nat.le_refl _, fun p hp => (by cases hp), Or.inl rfl⟩
  | x :: l, a => by
    unfold maxR
    obtain ⟨h1, h2, h3⟩ := maxR_spec l (if a < x.2 then x.2 else a)
    by_cases q : a < x.2
    · rw [if_pos q] at h1 h2 h3 ⊢
      refine ⟨by omega, fun p hp => ?_, ?_⟩
      · rcases List.mem_cons.mp hp with w | w
        · rw [w]; exact h1
        · exact h2 p w
      · rcases h3 with w | ⟨p, hp, w⟩
        · exact Or.inr ⟨x, List.mem_cons_self, w⟩
        · exact Or.inr ⟨p, List.mem_cons_of_mem _ hp, w⟩
    · rw [if_neg q] at h1 h2 h3 ⊢
      refine ⟨h1, fun p hp => ?_, ?_⟩
      · rcases List.mem_cons.mp hp with w | w
        · rw [w]; omega
        · exact h2 p w
      · rcases h3 with w | ⟨p, hp, w⟩
        · exact Or.inl w
        · exact Or.inr ⟨p, List.mem_cons_of_mem _ hp, w⟩
theorem tot_ge {rs : List (Nat × Nat)} {p : Nat × Nat} (h : p ∈ rs) : p.2 ≤ tot rs := by
  obtain ⟨a, b, rfl⟩ := List.append_of_mem h
  rw [tot_app, tot_cons]; omega
theorem big_le {rs : List (Nat × Nat)} : maxR 0 rs ≤ tot rs := by
  rcases (maxR_spec rs 0).2.2 with w | ⟨p, hp, w⟩
  · omega
  · rw [w]; exact tot_ge hp
/-- the fresh arena -/
def r0 : List (Nat × Nat) := [(0, 16)]
theorem fill_arena : ∀ m j N s, j + m = 32 → m < N → (gA s 1).length = 32 → (gA s 2).length = 32 → Upto (gA s 1) j 254 → Upto (gA s 2) j (-1) → ∃ s', k_resetArena_2 N (Int32.ofNat j) s = k_resetArena_30 s' ∧ Fx [] [] [1, 2] [] s s' ∧ gA s' 1 = rep 32 254 ∧ gA s' 2 = rep 32 (-1)
  | _, _, 0, _, _, h, _, _, _, _ => by omega
  | 0, j, N + 1, s, hj, _, l1, l2, u1, u2 => by
    have : j = 32 := by omega
    subst this
    exact ⟨s, by rw [k_resetArena_2, if_neg (by decide)], Fx.refl .., u1.all l1, u2.all l2⟩
  | m + 1, j, N + 1, s, hj, hN, l1, l2, u1, u2 => by
    rw [k_resetArena_2, if_pos ((lt_lit (m := 32) (by omega) (by decide)).mpr (by omega)), st_ofNat _ _ (by omega) (by omega), Option.bind_some, st_ofNat _ _ (by omega) (by omega), Option.bind_some, ofNat_succ]
    obtain ⟨s', e, F, r⟩ := fill_arena m (j + 1) N (sA (sA s 1 ((gA s 1).set j 254)) 2 ((gA s 2).set j (-1))) (by omega) (by omega) (by simp only [gA_sA]; simp [l1]) (by simp only [gA_sA]; simp [l2]) (by simp only [gA_sA]; exact u1.set (by omega)) (by simp only [gA_sA]; exact u2.set (by omega))
    exact ⟨s', e, (((Fx.refl ..).sA (by simp)).sA (by simp)).trans F, r⟩
theorem fill_data : ∀ m j N s, j + m = 256 → m < N → (gA s 0).length = 256 → ∃ s', k_resetArena_32 N (Int32.ofNat j) s = some s' ∧ Fx [] [] [0] [] s s' ∧ (gA s' 0).length = 256
  | _, _, 0, _, _, h, _ => by omega
  | 0, j, N + 1, s, hj, _, l0 => by
    have : j = 256 := by omega
    subst this
    exact ⟨s, by rw [k_resetArena_32, if_neg (by decide)], Fx.refl .., l0⟩
  | m + 1, j, N + 1, s, hj, hN, l0 => by
    rw [k_resetArena_32, if_pos ((lt_lit (m := 256) (by omega) (by decide)).mpr (by omega)), st_ofNat _ _ (by omega) (by omega), Option.bind_some, ofNat_succ]
    obtain ⟨s', e, F, l⟩ := fill_data m (j + 1) N (sA s 0 ((gA s 0).set j (nar .byte 0))) (by omega) (by omega) (by rw [gA_sA, if_pos rfl, List.length_set]; exact l0)
    exact ⟨s', e, ((Fx.refl ..).sA (by simp)).trans F, l⟩
theorem fill_chunks : ∀ m j N s, j + m = 32 → m < N → (gA s 3).length = 32 → (gA s 4).length = 32 → (gA s 5).length = 32 → Upto (gA s 3) j 0 → Upto (gA s 4) j 0 → Upto (gA s 5) j 0 → ∃ s', k_resetChunks_2 N (Int32.ofNat j) s = some s' ∧ Fx [] [] [3, 4, 5] [] s s' ∧ gA s' 3 = rep 32 0 ∧ gA s' 4 = rep 32 0 ∧ gA s' 5 = rep 32 0
  | _, _, 0, _, _, h, _, _, _, _, _, _ => by omega
  | 0, j, N + 1, s, hj, _, l3, l4, l5, u3, u4, u5 => by
    have : j = 32 := by omega
    subst this
    exact ⟨s, by rw [k_resetChunks_2, if_neg (by decide)], Fx.refl .., u3.all l3, u4.all l4, u5.all l5⟩
  | m + 1, j, N + 1, s, hj, hN, l3, l4, l5, u3, u4, u5 => by
    rw [k_resetChunks_2, if_pos ((lt_lit (m := 32) (by omega) (by decide)).mpr (by omega)), show nar .byte (0 : Int32) = 0 by decide, st_ofNat _ _ (by omega) (by omega), Option.bind_some, st_ofNat _ _ (by omega) (by omega), Option.bind_some, st_ofNat _ _ (by omega) (by omega), Option.bind_some, ofNat_succ]
    obtain ⟨s', e, F, r⟩ := fill_chunks m (j + 1) N (sA (sA (sA s 5 ((gA s 5).set j 0)) 3 ((gA s 3).set j 0)) 4 ((gA s 4).set j 0)) (by omega) (by omega) (by simp only [gA_sA]; simp [l3]) (by simp only [gA_sA]; simp [l4]) (by simp only [gA_sA]; simp [l5]) (by simp only [gA_sA]; exact u3.set (by omega)) (by simp only [gA_sA]; exact u4.set (by omega)) (by simp only [gA_sA]; exact u5.set (by omega))
    exact ⟨s', e, ((((Fx.refl ..).sA (by simp)).sA (by simp)).sA (by simp)).trans F, r⟩
theorem fill_ring : ∀ m j N s, j + m = 32 → m < N → (gA s 6).length = 32 → ∃ s', k_resetQuarantine_2 N (Int32.ofNat j) s = k_resetQuarantine_21 s' ∧ Fx [] [] [6] [] s s' ∧ (gA s' 6).length = 32
  | _, _, 0, _, _, h, _ => by omega
  | 0, j, N + 1, s, hj, _, l6 => by
    have : j = 32 := by omega
    subst this
    exact ⟨s, by rw [k_resetQuarantine_2, if_neg (by decide)], Fx.refl .., l6⟩
  | m + 1, j, N + 1, s, hj, hN, l6 => by
    rw [k_resetQuarantine_2, if_pos ((lt_lit (m := 32) (by omega) (by decide)).mpr (by omega)), st_ofNat _ _ (by omega) (by omega), Option.bind_some, ofNat_succ]
    obtain ⟨s', e, F, l⟩ := fill_ring m (j + 1) N (sA s 6 ((gA s 6).set j (-1))) (by omega) (by omega) (by rw [gA_sA, if_pos rfl, List.length_set]; exact l6)
    exact ⟨s', e, ((Fx.refl ..).sA (by simp)).trans F, l⟩
theorem fill_runs : ∀ m j N s, j + m = 32 → m < N → (gA s 7).length = 32 → (gA s 8).length = 32 → ∃ s', k_resetRuns_2 N (Int32.ofNat j) s = k_resetRuns_28 s' ∧ Fx [] [] [7, 8] [] s s' ∧ (gA s' 7).length = 32 ∧ (gA s' 8).length = 32
  | _, _, 0, _, _, h, _, _ => by omega
  | 0, j, N + 1, s, hj, _, l7, l8 => by
    have : j = 32 := by omega
    subst this
    exact ⟨s, by rw [k_resetRuns_2, if_neg (by decide)], Fx.refl .., l7, l8⟩
  | m + 1, j, N + 1, s, hj, hN, l7, l8 => by
    rw [k_resetRuns_2, if_pos ((lt_lit (m := 32) (by omega) (by decide)).mpr (by omega)), st_ofNat _ _ (by omega) (by omega), Option.bind_some, st_ofNat _ _ (by omega) (by omega), Option.bind_some, ofNat_succ]
    obtain ⟨s', e, F, l⟩ := fill_runs m (j + 1) N (sA (sA s 7 ((gA s 7).set j 0)) 8 ((gA s 8).set j 0)) (by omega) (by omega) (by simp only [gA_sA]; simp [l7]) (by simp only [gA_sA]; simp [l8])
    exact ⟨s', e, (((Fx.refl ..).sA (by simp)).sA (by simp)).trans F, l⟩
theorem iv_init (r : Nat) : Iv r (fun _ => none) [] [] r0 (fun _ => -1) (fun _ => 254) := by
  refine ⟨fun c x h => (by cases h), fun g hg h => absurd rfl h, fun g hg => ⟨fun _ => ⟨(0, 16), by simp [r0], by dsimp only; omega, by dsimp only; omega⟩, fun _ => rfl⟩, fun g hg _ => rfl, ⟨List.nodup_nil, List.nodup_nil, fun c => ⟨fun h => (by cases h), fun ⟨x, h, _⟩ => (by cases h)⟩, fun c => ⟨fun h => (by cases h), fun ⟨x, h, _⟩ => (by cases h)⟩⟩, ⟨by simp [r0], fun p hp => by rw [List.mem_singleton.mp hp]; dsimp only; omega⟩, ?_, ?_, ?_, ?_⟩
  · rw [show cnt (fun _ => 254) 250 = 0 by decide]; rfl
  · rw [show cnt (fun _ => 254) 251 = 0 by decide]; rfl
  · decide
  · decide
theorem init_RI {v1 v2 v3 : Int32} {r B : Nat} (h1 : k_clamp v1 8 32 = 16) (h2 : k_clamp v2 1 3 = Int32.ofNat r) (h3 : k_clamp v3 0 256 = Int32.ofNat B) : ∃ s, k_init v1 v2 v3 = some s ∧ RI r B s (fun _ => none) [] [] r0 (fun _ => -1) (fun _ => 254) ∧ gI s 10 = 0 ∧ gI s 11 = 0 ∧ gL s 9 = 0 := by
  unfold k_init
  rw [h1, h2, h3]
  obtain ⟨z, hz⟩ : ∃ z, z = (sI (sI (sI (sI (sA (sA (sA (sA (sA (sA (sA (sA (sA s0 0 (rep 256 0)) 1 (rep 32 0)) 2 (rep 32 0)) 3 (rep 32 0)) 4 (rep 32 0)) 5 (rep 32 0)) 6 (rep 32 0)) 7 (rep 32 0)) 8 (rep 32 0)) 0 16) 1 (Int32.ofNat r)) 2 (Int32.ofNat B)) 3 ((8 : Int32) * 16)) := ⟨_, rfl⟩
  have zl : ∀ f, f < 9 → f ≠ 0 → (gA z f).length = 32 := fun f hf h0 => by
    rw [hz]
    simp only [gA_sI, gA_sA]
    match f, hf, h0 with
    | 1, _, _ => exact rep_length ..
    | 2, _, _ => exact rep_length ..
    | 3, _, _ => exact rep_length ..
    | 4, _, _ => exact rep_length ..
    | 5, _, _ => exact rep_length ..
    | 6, _, _ => exact rep_length ..
    | 7, _, _ => exact rep_length ..
    | 8, _, _ => exact rep_length ..
  have z0 : (gA z 0).length = 256 := by rw [hz]; simp only [gA_sI, gA_sA]; exact rep_length ..
  obtain ⟨a, ea, Fa, a1, a2⟩ := fill_arena 32 0 BIG z (by omega) (by unfold BIG; omega) (zl 1 (by omega) (by omega)) (zl 2 (by omega) (by omega)) (Upto.zero _ _) (Upto.zero _ _)
  obtain ⟨b, eb, Fb, lb⟩ := fill_data 256 0 BIG a (by omega) (by unfold BIG; omega) (by rw [Fa.2.2.1 0 (by simp)]; exact z0)
  have bA : ∀ k, k ≠ 0 → k ≠ 1 → k ≠ 2 → gA b k = gA z k := fun k x y w => by rw [Fb.2.2.1 k (by simp [x]), Fa.2.2.1 k (by simp [y, w])]
  obtain ⟨c, ec, Fc, c3, c4, c5⟩ := fill_chunks 32 0 BIG b (by omega) (by unfold BIG; omega) (by rw [bA 3 (by decide) (by decide) (by decide)]; exact zl 3 (by omega) (by omega)) (by rw [bA 4 (by decide) (by decide) (by decide)]; exact zl 4 (by omega) (by omega)) (by rw [bA 5 (by decide) (by decide) (by decide)]; exact zl 5 (by omega) (by omega)) (Upto.zero _ _) (Upto.zero _ _) (Upto.zero _ _)
  obtain ⟨d, ed, Fd, ld⟩ := fill_ring 32 0 BIG c (by omega) (by unfold BIG; omega) (by rw [Fc.2.2.1 6 (by simp), bA 6 (by decide) (by decide) (by decide)]; exact zl 6 (by omega) (by omega))
  have d78 : ∀ k, k = 7 ∨ k = 8 → gA d k = gA z k := fun k hk => by
    rcases hk with rfl | rfl
    · rw [Fd.2.2.1 7 (by simp), Fc.2.2.1 7 (by simp), bA 7 (by decide) (by decide) (by decide)]
    · rw [Fd.2.2.1 8 (by simp), Fc.2.2.1 8 (by simp), bA 8 (by decide) (by decide) (by decide)]
  obtain ⟨e, ee, Fe, e7, e8⟩ := fill_runs 32 0 BIG (sI (sI (sI d 4 0) 5 0) 6 0) (by omega) (by unfold BIG; omega) (by simp only [gA_sI]; rw [d78 7 (by omega)]; exact zl 7 (by omega) (by omega)) (by simp only [gA_sI]; rw [d78 8 (by omega)]; exact zl 8 (by omega) (by omega))
  have dI : ∀ k, gI d k = gI z k := fun k => by rw [Fd.1 k (by simp), Fc.1 k (by simp), Fb.1 k (by simp), Fa.1 k (by simp)]
  have eI : ∀ k, k ≠ 4 → k ≠ 5 → k ≠ 6 → gI e k = gI z k := fun k x y w => by rw [Fe.1 k (by simp), gI_sI, if_neg w, gI_sI, if_neg y, gI_sI, if_neg x, dI]
  have e0 : gI e 0 = 16 := by rw [eI 0 (by decide) (by decide) (by decide), hz]; simp [gI_sI]
  have eA : ∀ k, k ≠ 7 → k ≠ 8 → gA e k = gA d k := fun k x y => by rw [Fe.2.2.1 k (by simp [x, y])]; simp only [gA_sI]
  have dA : ∀ k, k ≠ 6 → gA d k = gA c k := fun k x => Fd.2.2.1 k (by simp [x])
  have cA : ∀ k, k ≠ 3 → k ≠ 4 → k ≠ 5 → gA c k = gA b k := fun k x y w => Fc.2.2.1 k (by simp [x, y, w])
  have ra : k_resetArena z = some b := by
    unfold k_resetArena
    rw [show (0 : Int32) = Int32.ofNat 0 from rfl, ea]
    exact eb
  have rc : k_resetChunks b = some c := ec
  have rq : k_resetQuarantine c = some (sI (sI (sI d 4 0) 5 0) 6 0) := by
    unfold k_resetQuarantine
    rw [show (0 : Int32) = Int32.ofNat 0 from rfl, ed]
    rfl
  have rr : k_resetRuns (sI (sI (sI d 4 0) 5 0) 6 0) = some (sI (sA (sA e 7 ((gA e 7).set 0 0)) 8 ((gA e 8).set 0 16)) 7 1) := by
    have k0 : ∀ (A : List Int32) y, A.length = 32 → Jvm.AM.st A 0 y = some (A.set 0 y) := fun A y hA => st_ofNat (k := 0) A y (by omega) (by omega)
    unfold k_resetRuns
    rw [show k_resetRuns_2 BIG 0 _ = k_resetRuns_28 e from ee]
    unfold k_resetRuns_28
    rw [k0 _ _ e7, Option.bind_some, k0 _ _ e8, Option.bind_some, e0]
  rw [← hz, ra, Option.bind_some, rc, Option.bind_some, rq, Option.bind_some, rr, Option.bind_some]
  have gz : ∀ (x : Int32) i, i < 32 → (rep 32 x)[i]? = some x := fun x i hi => by unfold rep; rw [List.getElem?_replicate, if_pos hi]
  refine ⟨_, rfl, ⟨?_, ?_, ?_, ?_, ?_, ⟨?_, fun g hg => ?_⟩, ⟨?_, fun g hg => ?_⟩, ⟨?_, ?_, ?_, fun c hc => ?_⟩, ⟨?_, by simp, ?_, 0, by omega, ?_, fun i c h => by cases h⟩, ?_, ⟨?_, ?_, ?_, by simp [r0], fun i p hp => ?_, fun p hp => by rw [List.mem_singleton.mp hp]; dsimp only; omega⟩, ?_, iv_init r⟩, ?_, ?_, ?_⟩
  · simp only [gI_sI, gI_sL, gI_sA]; exact e0
  · simp only [gI_sI, gI_sL, gI_sA]; rw [if_neg (by decide), if_neg (by decide), if_neg (by decide), if_neg (by decide), eI 1 (by decide) (by decide) (by decide), hz]; simp [gI_sI]
  · simp only [gI_sI, gI_sL, gI_sA]; rw [if_neg (by decide), if_neg (by decide), if_neg (by decide), if_neg (by decide), eI 2 (by decide) (by decide) (by decide), hz]; simp [gI_sI]
  · simp only [gI_sI, gI_sL, gI_sA]; rw [if_neg (by decide), if_neg (by decide), if_neg (by decide), if_neg (by decide), eI 3 (by decide) (by decide) (by decide), hz]; simp [gI_sI]
  · simp only [gA_sI, gA_sL, gA_sA]; rw [if_neg (by decide), if_neg (by decide), eA 0 (by decide) (by decide), dA 0 (by decide), cA 0 (by decide) (by decide) (by decide)]; exact lb
  · simp only [gA_sI, gA_sL, gA_sA]; rw [if_neg (by decide), if_neg (by decide), eA 1 (by decide) (by decide), dA 1 (by decide), cA 1 (by decide) (by decide) (by decide), Fb.2.2.1 1 (by simp), a1]; exact rep_length ..
  · simp only [gA_sI, gA_sL, gA_sA]; rw [if_neg (by decide), if_neg (by decide), eA 1 (by decide) (by decide), dA 1 (by decide), cA 1 (by decide) (by decide) (by decide), Fb.2.2.1 1 (by simp), a1]; exact gz _ _ (by omega)
  · simp only [gA_sI, gA_sL, gA_sA]; rw [if_neg (by decide), if_neg (by decide), eA 2 (by decide) (by decide), dA 2 (by decide), cA 2 (by decide) (by decide) (by decide), Fb.2.2.1 2 (by simp), a2]; exact rep_length ..
  · simp only [gA_sI, gA_sL, gA_sA]; rw [if_neg (by decide), if_neg (by decide), eA 2 (by decide) (by decide), dA 2 (by decide), cA 2 (by decide) (by decide) (by decide), Fb.2.2.1 2 (by simp), a2]; exact gz _ _ (by omega)
  · simp only [gA_sI, gA_sL, gA_sA]; rw [if_neg (by decide), if_neg (by decide), eA 3 (by decide) (by decide), dA 3 (by decide), c3]; exact rep_length ..
  · simp only [gA_sI, gA_sL, gA_sA]; rw [if_neg (by decide), if_neg (by decide), eA 4 (by decide) (by decide), dA 4 (by decide), c4]; exact rep_length ..
  · simp only [gA_sI, gA_sL, gA_sA]; rw [if_neg (by decide), if_neg (by decide), eA 5 (by decide) (by decide), dA 5 (by decide), c5]; exact rep_length ..
  · simp only [gA_sI, gA_sL, gA_sA]
    rw [if_neg (by decide), if_neg (by decide), if_neg (by decide), if_neg (by decide), if_neg (by decide), if_neg (by decide), eA 3 (by decide) (by decide), dA 3 (by decide), c3, eA 4 (by decide) (by decide), dA 4 (by decide), c4, eA 5 (by decide) (by decide), dA 5 (by decide), c5, gz _ _ hc]
    exact ⟨rfl, rfl, rfl⟩
  · simp only [gA_sI, gA_sL, gA_sA]; rw [if_neg (by decide), if_neg (by decide), eA 6 (by decide) (by decide)]; exact ld
  · simp only [gI_sI, gI_sL, gI_sA]; rw [if_neg (by decide), if_neg (by decide), if_neg (by decide), if_neg (by decide), Fe.1 5 (by simp)]; simp [gI_sI]
  · simp only [gI_sI, gI_sL, gI_sA]; rw [if_neg (by decide), if_neg (by decide), if_neg (by decide), if_neg (by decide), Fe.1 4 (by simp)]; simp [gI_sI]
  · simp only [gI_sI, gI_sL, gI_sA]; rw [if_neg (by decide), if_neg (by decide), if_neg (by decide), if_neg (by decide), Fe.1 6 (by simp)]; simp [gI_sI, usum]
  · simp only [gA_sI, gA_sL, gA_sA]; simp [e7]
  · simp only [gA_sI, gA_sL, gA_sA]; simp [e8]
  · simp only [gI_sI, gI_sL, gI_sA]; rfl
  · have i0 : i = 0 := by
      have := (List.getElem?_eq_some_iff.mp hp).1
      simp [r0] at this
      exact this
    subst i0
    cases hp
    simp only [gA_sI, gA_sL, gA_sA]
    simp only [show ¬ (7 : Nat) = 8 by decide, if_false, if_true]
    rw [List.getElem?_set_self (by omega), List.getElem?_set_self (by omega)]
    exact ⟨rfl, rfl⟩
  · simp only [gI_sI, gI_sL, gI_sA]; rfl
  · simp only [gI_sI, gI_sL, gI_sA]; rfl
  · simp only [gI_sI, gI_sL, gI_sA]; rfl
  · simp only [gL_sI, gL_sL, gL_sA]; rfl
def J (r B : Nat) (s : S) : Prop := ∃ ch lv q rs own sh, RI r B s ch lv q rs own sh ∧ bytesOf r ch q ≤ B
theorem usum_app (ch : Nat → Option (Nat × Nat × Nat)) (a b : List Nat) : usum ch (a ++ b) = usum ch a + usum ch b := by unfold usum; simp
theorem usum_congr {ch ch' : Nat → Option (Nat × Nat × Nat)} {q : List Nat} (h : ∀ d ∈ q, ch' d = ch d) : usum ch' q = usum ch q := by
  unfold usum
  congr 1
  apply List.map_congr_left
  intro d hd
  rw [h d hd]
theorem bytes_suf {r : Nat} {ch ch' : Nat → Option (Nat × Nat × Nat)} {p q : List Nat} (h : ∀ d ∈ q, ch' d = ch d) : bytesOf r ch' q ≤ bytesOf r ch (p ++ q) := by
  unfold bytesOf
  rw [usum_app, usum_congr h, List.length_append, Nat.mul_add (2 * r)]
  omega
theorem suf_same {r : Nat} {ch ch' : Nat → Option (Nat × Nat × Nat)} {lv p q : List Nat} {rs : List (Nat × Nat)} {own sh : Nat → Int32} (I : Iv r ch lv (p ++ q) rs own sh) (hd : ∀ d, d ∉ p → ch d ≠ none → ch' d = ch d) : ∀ d ∈ q, ch' d = ch d := fun d hq => by
  obtain ⟨_, L2, _, L4⟩ := I.2.2.2.2.1
  obtain ⟨x, hx, _⟩ := (L4 d).mp (List.mem_append_right _ hq)
  refine hd d (fun hp => ?_) (by rw [hx]; exact fun z => by cases z)
  exact (List.nodup_append.mp L2).2.2 d hp d hq rfl
theorem qat_ok {r B : Nat} (hr3 : r ≤ 3) {lv q : List Nat} {s : S} {ch : Nat → Option (Nat × Nat × Nat)} {rs : List (Nat × Nat)} {own sh : Nat → Int32} (h : RI r B s ch lv q rs own sh) {i : Nat} (hi : i < 32) : k_quarantineAt (Int32.ofNat i) s = some (match q[i]? with | none => -1 | some c => Int32.ofNat (8 * (oS (ch c) + r))) := by
  obtain ⟨g0, g1, g2, g3, l0, R1, R2, Rc, Rq, g6, Rr, g8, I⟩ := id h
  obtain ⟨q6, q16, q5, hd, hd32, q4, qi⟩ := id Rq
  unfold k_quarantineAt
  rw [if_neg (ofNat_nonneg (by omega)), q5]
  by_cases w : i < q.length
  · have e : q[i]? = some q[i] := List.getElem?_eq_getElem w
    rw [if_pos (by rw [ofNat_lt (by omega) (by omega)]; exact w), q4, ofNat_add']
    have m31 := and31 ⟨hd + i, by omega⟩
    dsimp only at m31
    obtain ⟨x, hx, _⟩ := (I.2.2.2.2.1.2.2.2 q[i]).mp (List.mem_of_getElem? e)
    obtain ⟨hc, x1, x64, x16, xq, xk⟩ := I.1 _ x hx
    have m8 := mul8 ⟨oS (ch q[i]) + r, by rw [hx]; show x.1 + r < 20; unfold span at x16; omega⟩
    dsimp only at m8
    rw [m31, ix_ofNat _ (by omega), qi i _ e, Option.bind_some, valid_yes hc, if_neg (by decide)]
    unfold k_userAddressOf
    rw [ugran_ok Rc g1 hc, Option.bind_some, Option.bind_some, m8, e]
  · rw [if_neg (by rw [ofNat_lt (by omega) (by omega)]; exact w), List.getElem?_eq_none (by omega)]

theorem and_nat (x : Int32) {m : Nat} (hm : m < 2147483648) : x &&& Int32.ofNat m = Int32.ofNat (x.toBitVec.toNat &&& m) := by
  apply Int32.toBitVec_inj.mp
  apply BitVec.eq_of_toNat_eq
  have h1 : x.toBitVec.toNat &&& m ≤ m := Nat.and_le_right
  rw [Int32.toBitVec_and, BitVec.toNat_and]
  show x.toBitVec.toNat &&& (BitVec.ofNat 32 m).toNat = (BitVec.ofNat 32 (x.toBitVec.toNat &&& m)).toNat
  rw [BitVec.toNat_ofNat, BitVec.toNat_ofNat, Nat.mod_eq_of_lt (by omega), Nat.mod_eq_of_lt (by omega)]
theorem and_small (x : Int32) (m : Nat) (hm : m < 2147483648) : ∃ n, n ≤ m ∧ x &&& Int32.ofNat m = Int32.ofNat n := ⟨_, Nat.and_le_right, and_nat x hm⟩
theorem mod_nat {n k : Nat} (hn : n < 2147483648) (hk : k < 2147483648) : Int32.ofNat n % Int32.ofNat k = Int32.ofNat (n % k) := by
  apply Int32.toInt_inj.mp
  have hm : n % k < 2147483648 := Nat.lt_of_le_of_lt (Nat.mod_le _ _) hn
  rw [Int32.toInt_mod, ofNat_toInt hn, ofNat_toInt hk, ofNat_toInt hm]
  exact (Int.ofNat_tmod n k).symm
/-- the granules inside chunks -/
theorem cnt_user {ch : Nat → Option (Nat × Nat × Nat)} {lv q : List Nat} {rs : List (Nat × Nat)} {own sh : Nat → Int32} (I : Iv 1 ch lv q rs own sh) : 3 * (lv.length + q.length) + tot rs ≤ 16 := by
  obtain ⟨K1, K2, K3, K4, ⟨L1, L2, L3, L4⟩, Sp, m0, m1, m3, m4⟩ := id I
  have inC : ∀ c ∈ lv ++ q, ∃ x, ch c = some x := fun c hc => by
    rcases List.mem_append.mp hc with w | w
    · obtain ⟨x, hx, _⟩ := (L3 c).mp w; exact ⟨x, hx⟩
    · obtain ⟨x, hx, _⟩ := (L4 c).mp w; exact ⟨x, hx⟩
  have us : (lv ++ q).length ≤ (List.range 16).countP fun g => decide (sh g ≠ 250) && decide (sh g ≠ 251) && decide (sh g ≠ 254) := by
    have nd : ((lv ++ q).map fun c => oS (ch c) + 1).Nodup := by
      unfold List.Nodup
      rw [List.pairwise_map]
      have nd0 : (lv ++ q).Nodup := List.nodup_append.mpr ⟨L1, L2, fun a ha b hb e => by
        obtain ⟨x, hx, x1⟩ := (L3 a).mp ha
        obtain ⟨y, hy, y2⟩ := (L4 b).mp hb
        rw [e, hy] at hx
        cases hx
        omega⟩
      refine List.Pairwise.imp_of_mem ?_ nd0
      intro a b ha hb hne e
      obtain ⟨x, hx⟩ := inC a ha
      obtain ⟨y, hy⟩ := inC b hb
      rw [hx, hy] at e
      change x.1 + 1 = y.1 + 1 at e
      obtain ⟨_, x1, x64, x16, _, _⟩ := K1 a x hx
      obtain ⟨_, y1, y64, y16, _, _⟩ := K1 b y hy
      exact hne (apart I hx hy (g := x.1) ⟨by omega, by unfold span; omega⟩ ⟨by omega, by unfold span; omega⟩)
    have := nodup_sub (m := (List.range 16).filter fun g => decide (sh g ≠ 250) && decide (sh g ≠ 251) && decide (sh g ≠ 254)) nd (fun g hg => by
      obtain ⟨c, hc, e⟩ := List.mem_map.mp hg
      obtain ⟨x, hx⟩ := inC c hc
      rw [hx] at e
      change x.1 + 1 = g at e
      obtain ⟨_, x1, x64, x16, xq, xk⟩ := K1 c x hx
      have u1 := (ug_ok ⟨x.2.1, by omega⟩).2.2.1 x1
      dsimp only at u1
      have sp : span 1 x.2.1 = 2 + ug x.2.1 := rfl
      have s := (xk g (by omega) (by omega)).2
      rw [List.mem_filter, List.mem_range]
      refine ⟨by omega, ?_⟩
      have sm : ∀ n : Fin 8, Int32.ofNat n.val ≠ 250 ∧ Int32.ofNat n.val ≠ 251 ∧ Int32.ofNat n.val ≠ 254 := by decide
      have : sh g ≠ 250 ∧ sh g ≠ 251 ∧ sh g ≠ 254 := by
        rw [s]
        unfold shv
        rw [if_neg (by omega), if_pos (by omega)]
        split
        · split
          · exact sm ⟨x.2.1 % 8, Nat.mod_lt _ (by omega)⟩
          · decide
        · decide
      simp [this])
    rw [List.length_map, ← List.countP_eq_length_filter] at this
    exact this
  have all : ∀ l : List Nat, (l.countP fun g => decide (sh g = 250)) + (l.countP fun g => decide (sh g = 251)) + (l.countP fun g => decide (sh g = 254)) + (l.countP fun g => decide (sh g ≠ 250) && decide (sh g ≠ 251) && decide (sh g ≠ 254)) ≤ l.length := by
    intro l
    induction l with
    | nil => simp
    | cons g l ih =>
      simp only [List.countP_cons, List.length_cons]
      by_cases a : sh g = 250
      · simp [a] at ih ⊢; omega
      by_cases b : sh g = 251
      · simp [b] at ih ⊢; omega
      by_cases c : sh g = 254
      · simp [c] at ih ⊢; omega
      · simp [a, b, c] at ih ⊢; omega
  have h16 := all (List.range 16)
  unfold cnt at m0 m1 m4
  rw [m0, m1, m4, List.length_range] at h16
  rw [List.length_append] at us
  omega
theorem runs_le {ch : Nat → Option (Nat × Nat × Nat)} {lv q : List Nat} {rs : List (Nat × Nat)} {own sh : Nat → Int32} (I : Iv 1 ch lv q rs own sh) : rs.length ≤ lv.length + q.length + 1 := by
  obtain ⟨K1, K2, K3, K4, _, Sp, m0, m1, m3, m4⟩ := id I
  have nd : (rs.map fun p => p.1 + p.2).Nodup := by
    unfold List.Nodup
    rw [List.pairwise_map]
    refine List.Pairwise.imp_of_mem ?_ Sp.1
    intro a b ha hb hne e
    have := (Sp.2 b hb).1
    omega
  have := nodup_sub (m := ((List.range 16).filter fun g => decide (sh g = 250)) ++ [16]) nd (fun g hg => by
    obtain ⟨p, hp, e⟩ := List.mem_map.mp hg
    obtain ⟨p0, p16⟩ := Sp.2 p hp
    by_cases w : g = 16
    · rw [w]; simp
    · refine List.mem_append_left _ ?_
      rw [List.mem_filter, List.mem_range]
      have hg16 : g < 16 := by omega
      refine ⟨hg16, ?_⟩
      have nc : ¬ cov rs g := by
        rintro ⟨p2, hp2, h1, h2⟩
        obtain ⟨a, b, hab⟩ := List.append_of_mem hp
        subst hab
        obtain ⟨q1, q2, q3, q4, q5, q6, q7⟩ := sep_mid.mp Sp
        rcases List.mem_append.mp hp2 with z | z
        · have := q3 p2 z; omega
        · rcases List.mem_cons.mp z with y | y
          · rw [y] at h2; omega
          · have := q4 p2 y; omega
      obtain ⟨c, x, hx, _, h1, h2⟩ := K2 g hg16 (fun z => nc ((K3 g hg16).mp z))
      obtain ⟨hc, x1, x64, x16, xq, xk⟩ := K1 c x hx
      have x0 : x.1 = g := by
        rcases Nat.lt_or_ge x.1 g with z | z
        · exfalso
          have o := (xk (g - 1) (by omega) (by omega)).1
          have cv : cov rs (g - 1) := ⟨p, hp, by omega, by omega⟩
          rw [(K3 (g - 1) (by omega)).mpr cv] at o
          exact enc_ne (by omega) o.symm
        · omega
      have s := (xk g h1 h2).2
      rw [s]
      unfold shv
      rw [if_pos (by omega)]
      rfl)
  rw [List.length_map, List.length_append, ← List.countP_eq_length_filter, List.length_singleton] at this
  unfold cnt at m0
  rw [m0] at this
  omega
theorem usum_ge {r : Nat} {ch : Nat → Option (Nat × Nat × Nat)} {lv q : List Nat} {rs : List (Nat × Nat)} {own sh : Nat → Int32} (I : Iv r ch lv q rs own sh) : ∀ l : List Nat, (∀ c ∈ l, c ∈ q) → l.length ≤ usum ch l
  | [], _ => by simp
  | c :: l, h => by
    have ih := usum_ge I l fun d hd => h d (List.mem_cons_of_mem _ hd)
    obtain ⟨x, hx, _⟩ := (I.2.2.2.2.1.2.2.2 c).mp (h c List.mem_cons_self)
    obtain ⟨hc, x1, x64, _⟩ := I.1 c x hx
    have u1 := (ug_ok ⟨x.2.1, by omega⟩).2.2.1 x1
    dsimp only at u1
    have : usum ch (c :: l) = ug x.2.1 + usum ch l := by unfold usum; rw [List.map_cons, List.sum_cons, hx]; rfl
    rw [this, List.length_cons]
    omega
theorem or64 (a b : Nat) : Int64.ofNat a ||| Int64.ofNat b = Int64.ofNat (a ||| b) := by
  apply Int64.toBitVec_inj.mp
  simp
theorem byte_sh : ∀ b : Fin 256, ∀ j : Fin 8, (Int32.ofNat b.val).toInt64 <<< (((8 : Int32) * Int32.ofNat j.val).toInt64 &&& 63) = Int64.ofNat (b.val <<< (8 * j.val)) := by decide +kernel
theorem read_val {s : S} (g3 : gI s 3 = 128) (l0 : (gA s 0).length = 256) (v : Int32) {n : Nat} (hn : n ≤ 8) : ∀ m j N (x : Nat), j + m = n → m < N → x < 2 ^ (8 * j) → ∃ y, y < 2 ^ (8 * n) ∧ k_readLittleEndian_5 N v (Int32.ofNat n) (Int64.ofNat x) (Int32.ofNat j) s = some (Int64.ofNat y)
  | _, _, 0, _, _, h, _ => by omega
  | 0, j, N + 1, x, hj, _, hx => by
    have : j = n := by omega
    subst this
    exact ⟨x, hx, by rw [k_readLittleEndian_5, if_neg (by rw [ofNat_lt (by omega) (by omega)]; omega)]⟩
  | m + 1, j, N + 1, x, hj, hN, hx => by
    have hx' : x < 2 ^ (8 * (j + 1)) := Nat.lt_of_lt_of_le hx (Nat.pow_le_pow_right (by omega) (by omega))
    rw [k_readLittleEndian_5, if_pos (by rw [ofNat_lt (by omega) (by omega)]; omega), if_pos ((lt_lit (m := 8) (by omega) (by decide)).mpr (by omega)), g3, ofNat_succ]
    by_cases q : v + Int32.ofNat j < 0
    · rw [if_pos q]; exact read_val g3 l0 v hn m (j + 1) N x (by omega) (by omega) hx'
    · rw [if_neg q]
      by_cases w : v + Int32.ofNat j < 128
      · obtain ⟨y, hy⟩ := addr_ix l0 _ q w
        obtain ⟨b, hb, eb⟩ := and_small y 255 (by omega)
        have eb' : y &&& 255 = Int32.ofNat b := eb
        have bs := byte_sh ⟨b, by omega⟩ ⟨j, by omega⟩
        dsimp only at bs
        rw [if_pos w, hy, Option.bind_some, eb', bs, or64]
        refine read_val g3 l0 v hn m (j + 1) N _ (by omega) (by omega) (Nat.or_lt_two_pow hx' ?_)
        rw [Nat.shiftLeft_eq, show 8 * (j + 1) = 8 + 8 * j by omega, Nat.pow_add]
        exact Nat.mul_lt_mul_of_pos_right (by omega) (Nat.two_pow_pos _)
      · rw [if_neg w]; exact read_val g3 l0 v hn m (j + 1) N x (by omega) (by omega) hx'
theorem usize_new {r B : Nat} (hr : 1 ≤ r) (hr3 : r ≤ 3) {lv q : List Nat} {s : S} {ch : Nat → Option (Nat × Nat × Nat)} {rs : List (Nat × Nat)} {own sh : Nat → Int32} (R : RI r B s ch lv q rs own sh) {c a n : Nat} (hx : ch c = some (a, n, 1)) : k_userSize (Int32.ofNat (8 * (a + r))) s = some (Int32.ofNat n) := by
  have I := R.2.2.2.2.2.2.2.2.2.2.2.2
  have Rc : RC s ch := R.2.2.2.2.2.2.2.1
  unfold k_userSize
  rcases slotU_ok hr hr3 R (Int32.ofNat (8 * (a + r))) with ⟨_, nn⟩ | ⟨d, y, hy, ev, e⟩
  · exact absurd rfl (nn c _ hx)
  · obtain ⟨hc, x1, x64, x16, _, _⟩ := I.1 c _ hx
    obtain ⟨hd, y1, y64, y16, _, _⟩ := I.1 d _ hy
    dsimp only at x1 x64 x16
    have u1 := (ug_ok ⟨n, by omega⟩).2.2.1 x1
    have v1 := (ug_ok ⟨y.2.1, by omega⟩).2.2.1 y1
    dsimp only at u1 v1
    have x16' := x16
    have y16' := y16
    unfold span at x16' y16'
    have e2 := (nat_eq (by omega) (by omega)).mp ev
    have cd := apart I hx hy (g := a + r) ⟨by dsimp only; omega, by dsimp only; unfold span; omega⟩ ⟨by omega, by unfold span; omega⟩
    subst cd
    rw [hx] at hy
    cases hy
    obtain ⟨_, sl⟩ := stateQ R hx
    have q4 := (Rc.2.2.2 c hc).2.1
    rw [hx] at q4
    change (gA s 4)[c]? = some (Int32.ofNat n) at q4
    rw [e, Option.bind_some, sl, Option.bind_some, if_neg (show ¬ (if (1 : Nat) = 1 then (1 : Int32) else 0) = 0 by decide), ix_ofNat _ (by omega), q4, Option.bind_some]
def Q (K : Int32 → Int32 → Int32 → Int32 → Int32 → Int32 → Int64 → Int32 → List Int32 → S → Option (Int32 × S)) (k : Nat) (q : List Int32) (res : Option (Int32 × S)) : Prop := ∃ (m : Nat) (t : S), m ≤ 16 ∧ J 1 96 t ∧ res = K (gI t 8) (gI t 11) (Int32.ofNat (8 * m)) (gI t 10) (gI t 5) (gI t 6) (gL t 9) (Int32.ofNat (k + 4)) q t
theorem tail {K : Int32 → Int32 → Int32 → Int32 → Int32 → Int32 → Int64 → Int32 → List Int32 → S → Option (Int32 × S)} {k : Nat} {q : List Int32} {t : S} (h : J 1 96 t) {m : Nat} (hm : m ≤ 16) : Q K k q (law_650 K (gI t 8) (gI t 11) (Int32.ofNat (8 * m)) (gI t 10) (gL t 9) (Int32.ofNat k) q t) := by
  obtain ⟨ch, lv, qq, rs, own, sh, R, b⟩ := id h
  obtain ⟨g0, g1, g2, g3, l0, R1, R2, Rc, Rq, g6, Rr, g8, I⟩ := id R
  refine ⟨m, t, hm, h, ?_⟩
  have c3 := cnt_user I
  have rl := runs_le I
  have ul := usum_ge I qq (fun _ h => h)
  have bl := big_le (rs := rs)
  have b1 : usum ch qq ≤ 16 := (iv_bound (by omega) I).2
  unfold bytesOf at b
  have q5 : gI t 5 = Int32.ofNat qq.length := Rq.2.2.1
  have e6 : 8 * (usum ch qq + 2 * 1 * qq.length) ≤ 96 := b
  unfold law_650 k_liveCount k_errorCount k_lastBadAddress k_lastValue k_quarantineBytes k_quarantineCount k_freeRunCount
  have m24 : ∀ x : Fin 17, (24 : Int32) * Int32.ofNat x.val = Int32.ofNat (24 * x.val) := by decide
  have m3 : ∀ x : Fin 17, (3 : Int32) * Int32.ofNat x.val = Int32.ofNat (3 * x.val) := by decide
  have M24 := m24 ⟨qq.length, by omega⟩
  have M3 := m3 ⟨lv.length + qq.length, by omega⟩
  dsimp only at M24 M3
  have md : Int32.ofNat (8 * (usum ch qq + 2 * 1 * qq.length)) % 8 = 0 := by
    rw [show (8 : Int32) = Int32.ofNat 8 from rfl, mod_nat (by omega) (by omega), show 8 * (usum ch qq + 2 * 1 * qq.length) % 8 = 0 by omega]; rfl
  rw [if_pos rfl, if_pos rfl, if_pos rfl, if_pos rfl, g6, if_neg (ofNat_nonneg (by omega)), if_neg (fun z => by rw [show (96 : Int32) = Int32.ofNat 96 from rfl, ofNat_lt (by omega) (by omega)] at z; omega), if_pos md, q5, M24, if_neg (by rw [ofNat_lt (by omega) (by omega)]; omega), big_ok R, Option.bind_some, g8, ofNat_add', M3, ofNat_add', if_neg (fun z => by rw [show (16 : Int32) = Int32.ofNat 16 from rfl, ofNat_lt (by omega) (by omega)] at z; omega), ofNat_succ, Rr.2.2.1, if_neg (by rw [ofNat_lt (by omega) (by omega)]; omega), ofNat_lit]
theorem sizes (x : Int32) : h_sizeOf x = 3 ∨ ∃ n, (n = 1 ∨ n = 2 ∨ n = 4 ∨ n = 8) ∧ h_sizeOf x = Int32.ofNat n ∧ h_sizeOf x ≠ 3 := by
  unfold h_sizeOf
  obtain ⟨y, hy, ey⟩ := and_small x 7 (by omega)
  have ey' : x &&& 7 = Int32.ofNat y := ey
  rw [ey']
  have A : ∀ y : Fin 8, (1 : Int32) <<< ((Int32.ofNat y.val &&& (3 : Int32)) &&& 31) = Int32.ofNat (2 ^ (y.val % 4)) := by decide
  by_cases q : Int32.ofNat y = 4
  · rw [if_pos q]; exact Or.inl rfl
  · rw [if_neg q]
    have a := A ⟨y, by omega⟩
    dsimp only at a
    rw [a]
    refine Or.inr ⟨2 ^ (y % 4), ?_, rfl, ?_⟩
    · rcases (show y % 4 = 0 ∨ y % 4 = 1 ∨ y % 4 = 2 ∨ y % 4 = 3 by omega) with h | h | h | h <;> rw [h] <;> decide
    · rcases (show y % 4 = 0 ∨ y % 4 = 1 ∨ y % 4 = 2 ∨ y % 4 = 3 by omega) with h | h | h | h <;> rw [h] <;> decide
theorem addrs (x : Int32) {m : Nat} (hm : m ≤ 16) : ∃ A, A ≤ 135 ∧ h_addrOf x (Int32.ofNat (8 * m)) = some (Int32.ofNat A) := by
  unfold h_addrOf
  by_cases q : (x &&& (8 : Int32)) = 0
  · rw [if_pos q]
    obtain ⟨y, hy, ey⟩ := and_small (XT.ushr x (4 : Int32)) 7 (by omega)
    have ey' : (XT.ushr x (4 : Int32)) &&& 7 = Int32.ofNat y := ey
    rw [ey', ofNat_add']
    exact ⟨8 * m + y, by omega, rfl⟩
  · rw [if_neg q]
    obtain ⟨y, hy, ey⟩ := and_small x 2147483647 (by omega)
    have ey' : x &&& 2147483647 = Int32.ofNat y := ey
    rw [ey', show (136 : Int32) = Int32.ofNat 136 from rfl, mod_nat (by omega) (by omega)]
    exact ⟨y % 136, by omega, rfl⟩
theorem kb_range (sh : Nat → Int32) (v : Int32) (h : kb sh v ≠ 0) : ¬ kb sh v < 1 ∧ ¬ (5 : Int32) < kb sh v := by
  unfold kb at h ⊢
  unfold k_kindForShadow k_kindForShadow_28 at h ⊢
  by_cases a : v < 0
  · rw [if_pos a]; decide
  rw [if_neg a] at h ⊢
  by_cases b : v < 128
  · rw [if_pos b] at h ⊢
    by_cases c : sh (v.toNatClampNeg / 8) = 0
    · rw [if_pos c] at h; exact absurd rfl h
    rw [if_neg c] at h ⊢
    repeat' split
    all_goals first | decide | skip
    all_goals (exfalso; apply h; simp_all)
  · rw [if_neg b]; decide
theorem kb_out (sh : Nat → Int32) {A : Nat} (hA : 128 ≤ A) (h2 : A < 1000) : kb sh (Int32.ofNat A) = 5 := by
  unfold kb
  rw [if_neg (ofNat_nonneg (by omega)), if_neg (fun z => by have := (lt_lit (m := 128) (by omega) (by decide)).mp z; omega)]
theorem acc_fin {K : Int32 → Int32 → Int32 → Int32 → Int32 → Int32 → Int64 → Int32 → List Int32 → S → Option (Int32 × S)} {k : Nat} {q : List Int32} {u : S} (h : J 1 96 u) {m : Nat} (hm : m ≤ 16) (v8 : Int64) {t : S} (ht : J 1 96 t) (F5 : gI t 5 = gI u 5) (F6 : gI t 6 = gI u 6) (F8 : gI t 8 = gI u 8) (e9 : gL t 9 = v8) : Q K k q (law_630 K (gI u 8) (gI t 11) (Int32.ofNat (8 * m)) (gI t 10) (gI u 5) (gI u 6) v8 (Int32.ofNat k) q t) := by
  unfold law_630 k_quarantineCount k_quarantineBytes
  rw [if_pos F5, if_pos F6, ← F8, ← e9]
  exact tail ht hm
theorem acc_bad {K : Int32 → Int32 → Int32 → Int32 → Int32 → Int32 → Int64 → Int32 → List Int32 → S → Option (Int32 × S)} {k : Nat} {q : List Int32} {u : S} (h : J 1 96 u) {m : Nat} (hm : m ≤ 16) (v11 : Int32) {n A i : Nat} (hn : n = 1 ∨ n = 2 ∨ n = 4 ∨ n = 8) (hA : A ≤ 135) (hi : i < n) {sh : Nat → Int32} (kn : kb sh (Int32.ofNat A + Int32.ofNat i) ≠ 0) (first : ∀ i', i' < i → kb sh (Int32.ofNat A + Int32.ofNat i') = 0) : Q K k q (law_491 K (gI u 8) (gI u 11) (Int32.ofNat (8 * m)) (gI u 10) (gI u 5) (gI u 6) (gL u 9) (Int32.ofNat k) v11 (Int32.ofNat n) (Int32.ofNat A) (kb sh (Int32.ofNat A + Int32.ofNat i)) q (k_recordError (Int32.ofNat A + Int32.ofNat i) u)) := by
  have n3 : ¬ Int32.ofNat n = 3 := by rcases hn with h | h | h | h <;> rw [h] <;> decide
  obtain ⟨r1, r2⟩ := kb_range sh _ kn
  have ht : J 1 96 (k_recordError (Int32.ofNat A + Int32.ofNat i) u) := by
    obtain ⟨ch, lv, qq, rs, own, sh, R, b⟩ := h
    exact ⟨_, _, _, _, _, _, R.fx (rec_fx _ _) (by unfold k_recordError; rw [gA_sI, gA_sI]; exact R.2.2.2.2.1), b⟩
  have t10 : gI (k_recordError (Int32.ofNat A + Int32.ofNat i) u) 10 = Int32.ofNat (A + i) := by unfold k_recordError; rw [gI_sI, if_pos rfl, ofNat_add']
  have t11 : gI (k_recordError (Int32.ofNat A + Int32.ofNat i) u) 11 = gI u 11 + 1 := by unfold k_recordError; rw [gI_sI, if_neg (by decide), gI_sI, if_pos rfl]
  have fin := acc_fin (K := K) (k := k) (q := q) h hm (gL u 9) ht (by unfold k_recordError; simp [gI_sI]) (by unfold k_recordError; simp [gI_sI]) (by unfold k_recordError; simp [gI_sI]) (by unfold k_recordError; simp [gL_sI])
  rw [t10, t11] at fin
  unfold law_491 k_lastBadAddress
  rw [if_neg n3, if_neg kn, if_neg r1, if_neg r2, t10, if_neg (by rw [ofNat_lt (by omega) (by omega)]; omega), ofNat_add', show Int32.ofNat (A + n) - 1 = Int32.ofNat (A + n - 1) from sub_nat (b := 1) (by omega), if_neg (by rw [ofNat_lt (by omega) (by omega)]; omega)]
  by_cases w : A < 128
  · rw [if_pos ((lt_lit (m := 128) (by omega) (by decide)).mpr w)]
    exact fin
  · rw [if_neg (fun z => w ((lt_lit (m := 128) (by omega) (by decide)).mp z))]
    have i0 : i = 0 := by
      rcases Nat.eq_zero_or_pos i with z | z
      · exact z
      · have := first 0 z
        rw [ofNat_add', Nat.add_zero, kb_out sh (by omega) (by omega)] at this
        cases this
    have k5 : kb sh (Int32.ofNat A + Int32.ofNat i) = 5 := by rw [ofNat_add']; exact kb_out sh (by omega) (by omega)
    rw [if_pos k5, if_pos (show Int32.ofNat (A + i) = Int32.ofNat A by rw [i0, Nat.add_zero])]
    exact fin
theorem free_turn {K : Int32 → Int32 → Int32 → Int32 → Int32 → Int32 → Int64 → Int32 → List Int32 → S → Option (Int32 × S)} {k : Nat} {q : List Int32} {u : S} (h : J 1 96 u) {m : Nat} (hm : m ≤ 16) (p0 : Int32) : Q K k q (law_305 K (gI u 8) (gI u 11) (Int32.ofNat (8 * m)) (gI u 10) (gI u 5) (gI u 6) (gL u 9) (Int32.ofNat k) p0 q u) := by
  obtain ⟨ch, lv, qq, rs, own, sh, R, b⟩ := id h
  have I := R.2.2.2.2.2.2.2.2.2.2.2.2
  have g8 : gI u 8 = Int32.ofNat lv.length := R.2.2.2.2.2.2.2.2.2.2.2.1
  have q5 : gI u 5 = Int32.ofNat qq.length := R.2.2.2.2.2.2.2.2.1.2.2.1
  have bq := (iv_bound (by omega) I).1
  unfold law_305 law_416 law_399 law_436
  rcases free_ok (by omega) (by omega) (by omega) R p0 with ⟨e, _⟩ | ⟨c, x, hx, _, ev, e⟩ | ⟨c, a, n, s', ch', q', rs', own', sh', p, hx, ev, e, R', len, F, bb, hp, hpd, hpn, _⟩
  · rw [e, Option.bind_some]
    dsimp only
    rw [if_neg (by decide), if_neg (by decide), if_pos rfl, k_quarantineCount, k_quarantineBytes, if_pos rfl, if_pos rfl]
    exact tail h hm
  · rw [e, Option.bind_some]
    dsimp only
    rw [if_neg (by decide), if_pos rfl, k_quarantineCount, k_quarantineBytes, if_pos rfl, if_pos rfl]
    exact tail h hm
  · have I' := R'.2.2.2.2.2.2.2.2.2.2.2.2
    have J' : J 1 96 s' := ⟨_, _, _, _, _, _, R', bb⟩
    have q5' : gI s' 5 = Int32.ofNat q'.length := R'.2.2.2.2.2.2.2.2.1.2.2.1
    have g8' : gI s' 8 = Int32.ofNat (lv.erase c).length := R'.2.2.2.2.2.2.2.2.2.2.2.1
    obtain ⟨hc, x1, x64, x16, _, xk⟩ := I.1 c _ hx
    dsimp only at x1 x64 x16 xk
    have u1 := (ug_ok ⟨n, by omega⟩).2.2.1 x1
    dsimp only at u1
    have sp : span 1 n = 2 + ug n := rfl
    have ql : q'.length ≤ qq.length + 1 := by
      have := congrArg List.length hp
      rw [List.length_append, List.length_append, List.length_singleton] at this
      omega
    -- other chunks of the new table lie elsewhere
    have oth : ∀ d y, ch' d = some y → d ≠ c → ¬ (y.1 ≤ a + 1 ∧ a + 1 < y.1 + span 1 y.2.1) := fun d y hy dc w => by
      have dp : d ∉ p := fun z => by rw [hpn d z] at hy; cases hy
      have hd := hpd d dp
      rw [hy] at hd
      unfold aupd at hd
      rw [if_neg dc] at hd
      exact dc (apart I hd.symm hx w ⟨by dsimp only; omega, by dsimp only; omega⟩)
    have dv8 : ∀ x : Fin 17, Int32.ofNat (8 * x.val) / 8 = Int32.ofNat x.val := by decide
    have D8 := dv8 ⟨a + 1, by omega⟩
    dsimp only at D8
    have sub1 : gI u 8 + -1 = gI s' 8 := by
      rw [g8, g8', ← len, ← ofNat_succ]; simp [Int32.add_assoc]
    have us : k_userSize (Int32.ofNat (8 * (a + 1))) s' = some (-1) := by
      unfold k_userSize
      rcases slotU_ok (by omega) (by omega) R' (Int32.ofNat (8 * (a + 1))) with ⟨e, _⟩ | ⟨d, y, hy, ev2, e⟩
      · rw [e, Option.bind_some]
        unfold k_isLive
        rw [show k_validSlot (-1) = 0 by decide, if_pos rfl, Option.bind_some, if_pos rfl]
      · obtain ⟨hd, y1, y64, y16, _, _⟩ := I'.1 d y hy
        have v1 := (ug_ok ⟨y.2.1, by omega⟩).2.2.1 y1
        dsimp only at v1
        have y16' := y16
        unfold span at y16'
        have e2 := (nat_eq (by omega) (by omega)).mp ev2
        have dc : d = c := by
          by_cases w : d = c
          · exact w
          · exact absurd ⟨by omega, by unfold span; omega⟩ (oth d y hy w)
        subst dc
        have y2 : y.2.2 = 2 := by
          have dp : d ∉ p := fun z => by rw [hpn d z] at hy; cases hy
          have hd := hpd d dp
          rw [hy] at hd
          unfold aupd at hd
          rw [if_pos rfl] at hd
          cases hd
          rfl
        obtain ⟨_, sl⟩ := stateQ R' hy
        rw [e, Option.bind_some, sl, y2, Option.bind_some, if_pos (show (if (2 : Nat) = 1 then (1 : Int32) else 0) = 0 from rfl)]
    have fin : Q K k q (law_650 K (gI u 8 + -1) (gI u 11) (Int32.ofNat (8 * m)) (gI u 10) (gL u 9) (Int32.ofNat k) q s') := by
      rw [sub1, ← F.1 11 (by simp), ← F.1 10 (by simp), ← F.2.1 9 (by simp)]
      exact tail J' hm
    rw [e, ev, Option.bind_some]
    dsimp only
    rw [if_pos rfl, D8, shadow_ok R' (show a + 1 < 16 by omega), Option.bind_some, us, Option.bind_some, if_pos rfl]
    unfold k_quarantineCount
    rw [q5, q5', ofNat_succ, if_neg (by rw [ofNat_lt (by omega) (by omega)]; omega)]
    by_cases w : q' = []
    · -- evicted at once
      have cp : c ∈ p := by
        have : c ∈ qq ++ [c] := by simp
        rw [hp, w, List.append_nil] at this
        exact this
      have o1 : own' (a + 1) = -1 := by
        by_cases z : own' (a + 1) = -1
        · exact z
        · exfalso
          obtain ⟨d, y, hy, _, h1, h2⟩ := I'.2.1 (a + 1) (by omega) z
          have dc : d ≠ c := fun z => by rw [z, hpn c cp] at hy; cases hy
          exact oth d y hy dc ⟨h1, h2⟩
      rw [I'.2.2.2.1 (a + 1) (by omega) o1, if_neg (by decide), if_pos rfl]
      exact fin
    · obtain ⟨q1, l, hl⟩ : ∃ q1 l, q' = q1 ++ [l] := by
        rcases List.eq_nil_or_concat q' with z | ⟨q1, l, z⟩
        · exact absurd z w
        · exact ⟨q1, l, by rw [z]; simp⟩
      have lc : l = c := by
        rw [hl, ← List.append_assoc] at hp
        have := List.append_inj_right' hp rfl
        cases this; rfl
      subst lc
      have lq : l ∈ q' := by rw [hl]; simp
      obtain ⟨y, hy, y2⟩ := (I'.2.2.2.2.1.2.2.2 l).mp lq
      have hy' : y = (a, n, 2) := by
        have dp : l ∉ p := fun z => by rw [hpn l z] at hy; cases hy
        have hd := hpd l dp
        rw [hy] at hd
        unfold aupd at hd
        rw [if_pos rfl] at hd
        cases hd
        rfl
      subst hy'
      obtain ⟨_, _, _, y16, _, yk⟩ := I'.1 l _ hy
      dsimp only at y16 yk
      have s1 := (yk (a + 1) (by omega) (by omega)).2
      unfold shv at s1
      dsimp only at s1
      rw [if_neg (by omega), if_pos (by omega), if_neg (by decide)] at s1
      have ll : q'.length = q1.length + 1 := by rw [hl]; simp
      have qa := qat_ok (by omega) R' (i := q1.length) (by omega)
      rw [hl, get_mid (post := []), if_neg (by omega), if_pos rfl] at qa
      dsimp only at qa
      rw [hy] at qa
      rw [s1, if_pos rfl, show Int32.ofNat q'.length - 1 = Int32.ofNat q1.length by rw [ll, ← ofNat_succ]; simp, show k_quarantineAt (Int32.ofNat q1.length) s' = some (Int32.ofNat (8 * (a + 1))) from qa, Option.bind_some, if_pos rfl]
      exact fin
theorem turn (n : Nat) (q : List Int32) (hq : q.length ≤ 260) {k : Nat} {u : S} (hk : k + 4 ≤ q.length) (h : J 1 96 u) {m : Nat} (hm : m ≤ 16) : Q (fun v2 v3 v4 v5 v6 v7 v8 v10 q t0 => law_35 n v2 v3 v4 v5 v6 v7 v8 v10 q t0) k q (law_35 (n + 1) (gI u 8) (gI u 11) (Int32.ofNat (8 * m)) (gI u 10) (gI u 5) (gI u 6) (gL u 9) (Int32.ofNat k) q u) := by
  have lt3' : (Int32.ofNat k + 3) < q.length.toInt32 := by
    rw [show Int32.ofNat k + 3 = Int32.ofNat (k + 3) from ofNat_lit k 3]; exact (ofNat_lt (by omega) (by omega)).mpr (by omega)
  obtain ⟨x0, e0⟩ := ix_some q (k := k) (by omega) (by omega)
  obtain ⟨x1, e1⟩ := ix_some q (k := k + 1) (by omega) (by omega)
  obtain ⟨x2, e2⟩ := ix_some q (k := k + 2) (by omega) (by omega)
  obtain ⟨x3, e3⟩ := ix_some q (k := k + 3) (by omega) (by omega)
  rw [law_35, if_pos lt3', e0, Option.bind_some, ofNat_lit, e1, Option.bind_some, ofNat_lit, e2, Option.bind_some, ofNat_lit, e3, Option.bind_some]
  generalize (fun v2 v3 v4 v5 v6 v7 v8 v10 q t0 => law_35 n v2 v3 v4 v5 v6 v7 v8 v10 q t0) = K
  obtain ⟨ch, lv, qq, rs, own, sh, R, b⟩ := id h
  have I := R.2.2.2.2.2.2.2.2.2.2.2.2
  have g8 : gI u 8 = Int32.ofNat lv.length := R.2.2.2.2.2.2.2.2.2.2.2.1
  have q5 : gI u 5 = Int32.ofNat qq.length := R.2.2.2.2.2.2.2.2.1.2.2.1
  have bq := (iv_bound (by omega) I).1
  by_cases o0 : (x0 &&& (3 : Int32)) = 0
  · rw [if_pos o0]
    obtain ⟨y, hy, ey⟩ := and_small x1 127 (by omega)
    have ey' : x1 &&& 127 = Int32.ofNat y := ey
    rw [ey', show (67 : Int32) = Int32.ofNat 67 from rfl, mod_nat (by omega) (by omega)]
    obtain ⟨z, hz⟩ : ∃ z, z = y % 67 := ⟨_, rfl⟩
    have z67 : z < 67 := by omega
    rw [← hz]
    unfold law_112 law_273
    by_cases n1 : 1 ≤ z
    · by_cases n64 : z ≤ 64
      · obtain ⟨s', ch', q', rs', own', sh', F, ⟨p, hp, hd⟩, oc⟩ := alloc_ok (by omega) (by omega) R n1 n64
        have bb : bytesOf 1 ch' q' ≤ 96 := by
          subst hp
          exact Nat.le_trans (bytes_suf (suf_same I hd)) b
        have ql : q'.length ≤ qq.length := by rw [hp, List.length_append]; omega
        obtain ⟨ua, ub, uc, ud⟩ := ug_ok ⟨z, by omega⟩
        dsimp only at ua ub uc ud
        have u1 := uc n1
        have sp : span 1 z = 2 + ug z := rfl
        have c1 : ¬ Int32.ofNat z < 1 := fun w => by have := (lt_lit (m := 1) (by omega) (by decide)).mp w; omega
        have c2 : ¬ (64 : Int32) < Int32.ofNat z := fun w => by rw [show (64 : Int32) = Int32.ofNat 64 from rfl, ofNat_lt (by omega) (by omega)] at w; omega
        rcases oc with ⟨e, rfl, R', al⟩ | ⟨c, a, e, R', hx⟩
        · have J' : J 1 96 s' := ⟨_, _, _, _, _, _, R', bb⟩
          have g8' : gI s' 8 = Int32.ofNat lv.length := R'.2.2.2.2.2.2.2.2.2.2.2.1
          have q5' : gI s' 5 = Int32.ofNat 0 := R'.2.2.2.2.2.2.2.2.1.2.2.1
          have g6' : gI s' 6 = Int32.ofNat (8 * (usum ch' [] + 2 * 1 * ([] : List Nat).length)) := R'.2.2.2.2.2.2.2.2.2.1
          have bg : maxR 0 rs' < span 1 z := by
            rcases (maxR_spec rs' 0).2.2 with w | ⟨pp, hpp, w⟩
            · omega
            · rw [w]; exact al pp hpp
          rw [e, Option.bind_some, if_neg c1, if_neg c2, if_pos rfl]
          dsimp only
          rw [k_quarantineCount, k_quarantineBytes, q5', g6', if_pos (by rfl), if_pos (by rfl), big_ok R', Option.bind_some, ua, show (2 : Int32) = Int32.ofNat 2 from rfl, ofNat_add', if_pos (by rw [ofNat_lt (by omega) (by omega)]; omega)]
          rw [g8, ← g8', ← F.1 11 (by simp), ← F.1 10 (by simp), ← F.2.1 9 (by simp)]
          exact tail J' hm
        · have J' : J 1 96 s' := ⟨_, _, _, _, _, _, R', bb⟩
          have I' := R'.2.2.2.2.2.2.2.2.2.2.2.2
          have g8' : gI s' 8 = Int32.ofNat (c :: lv).length := R'.2.2.2.2.2.2.2.2.2.2.2.1
          have q5' : gI s' 5 = Int32.ofNat q'.length := R'.2.2.2.2.2.2.2.2.1.2.2.1
          obtain ⟨hc, _, _, x16, _, xk⟩ := I'.1 c _ hx
          dsimp only at x16 xk
          have dv8 : ∀ x : Fin 17, Int32.ofNat (8 * x.val) / 8 = Int32.ofNat x.val ∧ Int32.ofNat (8 * x.val) % 8 = 0 ∧ ¬ Int32.ofNat (8 * x.val) = -2 := by decide
          obtain ⟨D8, D9, D10⟩ := dv8 ⟨a + 1, by omega⟩
          dsimp only at D8 D9 D10
          have s1 := (xk a (by omega) (by omega)).2
          have s2 := (xk (a + 1 + ug z - 1) (by omega) (by omega)).2
          have s3 := (xk (a + 1 + ug z) (by omega) (by omega)).2
          unfold shv at s1 s2 s3
          dsimp only at s1 s2 s3
          rw [if_pos (by omega)] at s1
          rw [if_neg (by omega), if_pos (by omega), if_pos rfl] at s2
          rw [if_neg (by omega), if_neg (by omega)] at s3
          have s2' : sh' (a + 1 + ug z - 1) = Int32.ofNat (z % 8) := by
            rw [s2]
            by_cases w : z % 8 = 0
            · rw [if_neg (fun x => x.2 w), w]; rfl
            · rw [if_pos ⟨by omega, w⟩]
          rw [e, Option.bind_some, if_neg c1, if_neg c2, if_neg D10]
          dsimp only
          rw [if_neg (fun w => by have := (lt_lit (m := 8) (by omega) (by decide)).mp w; omega), if_pos D9, usize_new (by omega) (by omega) R' hx, Option.bind_some, if_pos rfl, D8, show Int32.ofNat (a + 1) - 1 = Int32.ofNat a by rw [← ofNat_succ]; simp, shadow_ok R' (by omega), Option.bind_some, s1, if_pos rfl, ua, ofNat_add', show Int32.ofNat (a + 1 + ug z) - 1 = Int32.ofNat (a + 1 + ug z - 1) from sub_nat (b := 1) (by omega), shadow_ok R' (by omega), Option.bind_some, s2', ud, if_pos rfl, ofNat_succ, show a + 1 + ug z - 1 + 1 = a + 1 + ug z by omega, shadow_ok R' (by omega), Option.bind_some, s3, if_pos rfl, k_quarantineCount, q5, q5', if_neg (by rw [ofNat_lt (by omega) (by omega)]; omega)]
          rw [g8, ofNat_succ, show lv.length + 1 = (c :: lv).length from rfl, ← g8', ← F.1 11 (by simp), ← F.1 10 (by simp), ← F.2.1 9 (by simp)]
          exact tail J' (by omega)
      · have c1 : ¬ Int32.ofNat z < 1 := fun w => by have := (lt_lit (m := 1) (by omega) (by decide)).mp w; omega
        have c2 : (64 : Int32) < Int32.ofNat z := by rw [show (64 : Int32) = Int32.ofNat 64 from rfl, ofNat_lt (by omega) (by omega)]; omega
        have e : k_alloc (Int32.ofNat z) u = some (-1, u) := by unfold k_alloc; rw [if_neg c1, if_pos c2]
        rw [e, Option.bind_some, if_neg c1, if_pos c2, if_pos rfl]
        exact tail h hm
    · have c1 : Int32.ofNat z < 1 := (lt_lit (m := 1) (by omega) (by decide)).mpr (by omega)
      have e : k_alloc (Int32.ofNat z) u = some (-1, u) := by unfold k_alloc; rw [if_pos c1]
      rw [e, Option.bind_some, if_pos c1, if_pos rfl]
      exact tail h hm
  · rw [if_neg o0]
    by_cases o1 : (x0 &&& (3 : Int32)) = 1
    · rw [if_pos o1]
      split
      · exact free_turn h hm _
      · exact free_turn h hm _
    · rw [if_neg o1]
      obtain ⟨A, hA, eA⟩ := addrs x2 hm
      rw [eA, Option.bind_some]
      rcases sizes x1 with s3 | ⟨z, hz, ez, z3⟩
      · rw [s3]
        have ld : k_load (Int32.ofNat A) 3 u = some (6, u) := by unfold k_load; rw [if_pos (by decide)]
        have sd : ∀ v, k_store (Int32.ofNat A) 3 v u = some (6, u) := fun v => by unfold k_store; rw [if_pos (by decide)]
        rw [ld, sd, Option.bind_some]
        have fin := acc_fin (K := K) (k := k) (q := q) h hm (gL u 9) h rfl rfl rfl rfl
        unfold law_491
        dsimp only
        rw [if_pos rfl, if_pos rfl]
        split
        · exact fin
        · exact fin
      · rw [ez]
        have okA : (∀ i, i < z → kb sh (Int32.ofNat A + Int32.ofNat i) = 0) → A + z ≤ 128 := fun al => by
          have := al (z - 1) (by omega)
          rcases Nat.lt_or_ge (A + (z - 1)) 128 with w | w
          · omega
          · rw [ofNat_add', kb_out sh w (by omega)] at this
            cases this
        rw [ez] at z3
        by_cases o2 : (x0 &&& (3 : Int32)) = 2
        · rw [if_pos o2]
          rcases load_ok R (Int32.ofNat A) hz with ⟨y, e, er, al⟩ | ⟨i, hi, kn, first, e⟩
          · have aa := okA al
            rw [e, Option.bind_some]
            unfold law_491
            dsimp only
            have J' : J 1 96 (sL u 9 y) := ⟨_, _, _, _, _, _, R.fx ((Fx.refl ..).sL (by simp)) (by rw [gA_sL]; exact R.2.2.2.2.1), b⟩
            have fin := acc_fin (K := K) (k := k) (q := q) h hm y J' (by rw [gI_sL]) (by rw [gI_sL]) (by rw [gI_sL]) (by rw [gL_sL, if_pos rfl])
            rw [gI_sL, gI_sL] at fin
            have lv9 : k_lastValue (sL u 9 y) = y := by unfold k_lastValue; rw [gL_sL, if_pos rfl]
            rw [if_neg z3, if_pos rfl, ofNat_add', if_neg (fun w => by rw [show (128 : Int32) = Int32.ofNat 128 from rfl, ofNat_lt (by omega) (by omega)] at w; omega), if_pos o2, lv9]
            by_cases z8 : z = 8
            · rw [if_neg (by rw [z8]; decide)]
              exact fin
            · have zlt : Int32.ofNat z < 8 := (lt_lit (m := 8) (by omega) (by decide)).mpr (by omega)
              obtain ⟨w, hw, ew⟩ := read_val R.2.2.2.1 R.2.2.2.2.1 (Int32.ofNat A) (n := z) (by omega) z 0 BIG 0 (by omega) (by unfold BIG; omega) (by decide)
              unfold k_readLittleEndian at er
              rw [show k_readLittleEndian_5 BIG (Int32.ofNat A) (Int32.ofNat z) 0 0 u = some (Int64.ofNat w) from ew] at er
              cases er
              have p4 : 2 ^ (8 * z) ≤ 2 ^ 32 := Nat.pow_le_pow_right (by omega) (by omega)
              have tw : (Int64.ofNat w).toInt = w := Int64.toInt_ofNat_of_lt (by omega)
              have sh1 : (1 : Int64) <<< (((8 : Int32) * Int32.ofNat z).toInt64 &&& 63) = Int64.ofNat (2 ^ (8 * z)) := by
                rcases (show z = 1 ∨ z = 2 ∨ z = 4 by omega) with r | r | r <;> rw [r] <;> decide
              have tp : (Int64.ofNat (2 ^ (8 * z))).toInt = ((2 ^ (8 * z) : Nat) : Int) := Int64.toInt_ofNat_of_lt (by omega)
              rw [if_pos zlt, sh1, if_neg (by rw [Int64.lt_iff_toInt_lt, tw, show (0 : Int64).toInt = 0 from rfl]; omega), if_pos (by rw [Int64.lt_iff_toInt_lt, tw, tp]; omega)]
              exact fin
          · rw [e, Option.bind_some]
            exact acc_bad h hm _ hz hA hi kn first
        · rw [if_neg o2]
          rcases store_ok R (Int32.ofNat A) (x3.toInt64 * (65537 : Int64)) hz with ⟨s', e, _, F, l, al⟩ | ⟨i, hi, kn, first, e⟩
          · have aa := okA al
            rw [e, Option.bind_some]
            unfold law_491
            dsimp only
            have J' : J 1 96 s' := ⟨_, _, _, _, _, _, R.fx (F.mono (by simp) (by simp) (by simp) (by simp)) l, b⟩
            have fin := acc_fin (K := K) (k := k) (q := q) h hm (gL u 9) J' (F.1 5 (by simp)) (F.1 6 (by simp)) (F.1 8 (by simp)) (F.2.1 9 (by simp))
            rw [F.1 11 (by simp), F.1 10 (by simp)] at fin
            rw [if_neg z3, if_pos rfl, ofNat_add', if_neg (fun w => by rw [show (128 : Int32) = Int32.ofNat 128 from rfl, ofNat_lt (by omega) (by omega)] at w; omega), if_neg o2]
            exact fin
          · rw [e, Option.bind_some]
            exact acc_bad h hm _ hz hA hi kn first
theorem law_true (q : List Int32) (hq : q.length ≤ 260) : ∃ t, law q = some (1, t) := by
  obtain ⟨s, es, Rs, s10, s11, s9⟩ := init_RI (v1 := 16) (v2 := 1) (v3 := 96) (r := 1) (B := 96) (by decide) (by decide) (by decide)
  have Js : J 1 96 s := ⟨_, _, _, _, _, _, Rs, by unfold bytesOf usum; simp⟩
  have s8 : gI s 8 = 0 := Rs.2.2.2.2.2.2.2.2.2.2.2.1
  have s5 : gI s 5 = 0 := Rs.2.2.2.2.2.2.2.2.1.2.2.1
  have s6 : gI s 6 = 0 := Rs.2.2.2.2.2.2.2.2.2.1
  unfold law
  rw [es, Option.bind_some]
  have lt3' : ∀ k, k ≤ 300 → ((Int32.ofNat k + 3) < q.length.toInt32 ↔ k + 3 < q.length) := fun k hk => by
    rw [show Int32.ofNat k + 3 = Int32.ofNat (k + 3) from ofNat_lit k 3]; exact ofNat_lt (by omega) (by omega)
  have R0 := run_script (fun n v (a : Nat × S) => law_35 n (gI a.2 8) (gI a.2 11) (Int32.ofNat (8 * a.1)) (gI a.2 10) (gI a.2 5) (gI a.2 6) (gL a.2 9) v q a.2) 4 q.length (by omega) (fun o => ∃ t, o = some (1, t)) (fun _ u => u.1 ≤ 16 ∧ J 1 96 u.2) (by
    rintro n k ⟨m, u⟩ hk ⟨hm, h⟩
    dsimp only at hm h
    right
    obtain ⟨m', t', hm', h', e⟩ := turn n q hq hk h hm
    exact ⟨(m', t'), e, hm', h'⟩) (by
    rintro n k ⟨m, u⟩ hk hk' ⟨hm, h⟩
    show ∃ t, law_35 (n + 1) _ _ _ _ _ _ _ _ _ _ = _
    rw [law_35, if_neg (fun z => by have := (lt3' k (by omega)).mp z; omega)]
    exact ⟨_, rfl⟩) BIG 0 (0, s) (by unfold BIG; omega) (by omega) ⟨by dsimp only; omega, Js⟩
  dsimp only at R0
  rw [s8, s11, s10, s5, s6, s9] at R0
  exact R0
set_option maxRecDepth 65536 in
set_option maxHeartbeats 40000000 in
theorem comes_1 {Post : Tables → Env → Array Value → State → Outcome → State → Prop} (hpost : ∀ tb e args s v u, (limb_1_1.after args s (.returned v) u = true ∧ limb_1_2.after args s (.returned v) u = true ∧ True) → FrameEnd s (.returned v) u (Jvm.fieldLocs frame_1_writes args s ++ Jvm.arrayLocs frame_1_arrays args s ++ Jvm.staticLocs frame_1_statics s) 32 1152 → Post tb e args s (.returned v) u) :
    ArmFor flags0 classFile x code maxLocals ret World_1 tables_1 room_1 Calls_1 rest_1 Pre_1 Post := by
  intro l hfl _ _ p e ha hc hk s m args below hf hA hF happ hP
  obtain ⟨hcalls, hrest, hpre⟩ := hP
  obtain ⟨-, -, -, hnamed, -, -, -, hat⟩ := (Spec.applies_iff hf).mp happ
  obtain ⟨hg, hn⟩ := and_e (Cond.before_iff.mp (show (Jvm.Cond.and given_1 narrow_1).before args s = true from hpre))
  obtain ⟨g0, b0⟩ := and_e hg
  have a0 := b0
  obtain ⟨w0, rfl⟩ : ∃ w0 : Value, args = #[w0] := by
    have hs : args.size = 1 := by simpa [Cond.value, given_1] using g0
    obtain ⟨L⟩ := args
    match L, hs with
    | [w0], _ => exact ⟨w0, rfl⟩
  have hw := fun d (hd : d ∈ tables_1) => atoms_spec (ws := Jvm.Cond.code x code maxLocals ret :: tables_1) hat d (List.mem_cons_of_mem _ hd)
  have hfit : Fit s := fun {y c} hc i hi => by
    obtain ⟨ha, rfl⟩ := Array.getElem?_eq_some_iff.mp hc
    have q := List.all_eq_true.mp ((Array.all_eq_true_iff_forall_mem.mp hF) _ (Array.getElem_mem ha)) i (List.mem_range.mpr hi)
    simpa [Array.getElem?_eq_getElem hi] using q
  obtain ⟨q1, q2⟩ := and_e hn
  obtain ⟨al, q, ei, A, hal, hlen⟩ := script_of hfit q1 q2
  obtain rfl : w0 = (.ref al) := Option.some.inj ei
  have hlen' : q.length ≤ 260 := by
    have e260 : (260 : Int32).toInt = 260 := rfl
    omega
  obtain ⟨t, ht⟩ := law_true q hlen'
  have C : Call PP m59 [.ref 0] (some q, []) (some (.int ((1 : Int32), t).1), (some q, [(9, ((1 : Int32), t).2)])) := call_of_go pl_1 rfl (fun h => by cases h) (law_ok q _ ht)
  obtain ⟨n, o, h1, h2, h3, _, L, rfl, ⟨rfl, N, _⟩, hq⟩ := C l s _ tables_1 al s.heap.size s.heap.size s.heap hw (facts1 hw) (Nat.le_refl _) (repW_some A hal) (Nat.zero_le _) (fun _ => ⟨rfl, rfl, rfl⟩) p e ha hc hk s m _ below hf ((Spec.applies_iff_loose hf).mp happ).1 ⟨rfl, State.Warmed39.refl s, rfl⟩ trivial
  refine ⟨n, _, h1, h2, h3, hpost _ _ _ _ _ _ ⟨Cond.after_iff.mpr rfl, Cond.after_iff.mpr (eq_i res_at (Term.int_eval (1)) rfl), trivial⟩ ⟨hq.1, hq.2.1, (hq.2.2.sift fun y hy => Or.inr (N y hy)).mono (by decide) (by decide)⟩⟩
theorem main_1_1 : Claimed_1_1 := comes_1 fun _ _ _ _ _ _ h hF => ⟨h.1, hF⟩
theorem main_1_2 : Claimed_1_2 := comes_1 fun _ _ _ _ _ _ h hF => ⟨h.2.1, hF⟩
end Jvm.Pilot.@@N@@
namespace Jvm.Pilot.@@N@@
open Jvm Jvm.ClassFile Sem Op Lib Jvm.Free Jvm.Stand Jvm.Pilot.@@N@@.Jvm.D
/-! MADE BY PROGRAM (witnessworld.py) out of the Statement's table words and the real class files: 9 classes; the members and pool entries that the words name. The judged class is class 1, her method 3. -/
namespace start1
open Jvm.ClassFile
def u (s : String) : CpInfo := .utf8 (stringToUtf16 s)
/-- a pool by its gaps: so many unusable entries, then the entry; so many at the end -/
def gap : Nat → List CpInfo → List CpInfo
  | 0, r => r
  | n + 1, r => .unusable :: gap n r
def poolList (es : List (Nat × CpInfo)) (last : Nat) : List CpInfo := es.foldr (fun e r => gap e.1 (e.2 :: r)) (gap last [])
def pool (es : List (Nat × CpInfo)) (last : Nat) : Array CpInfo := ⟨poolList es last⟩
def fileOf (pool : Array CpInfo) (this : Nat) (attrs : Array Attribute := #[]) (ms : Array MethodInfo := #[]) (fl : Nat := 33) (sup : Nat := 0) (ifs : Array Nat := #[]) (fds : Array FieldInfo := #[]) : ClassFile where
  minorVersion := 0
  majorVersion := 65
  constantPool := pool
  accessFlags := fl
  thisClass := this
  superClass := sup
  interfaces := ifs
  fields := fds
  methods := ms
  attributes := attrs
def plain (name : String) (sup : Option ClassId) : Class where
  name := name
  kind := .ordinary
  loader := none
  accessFlags := 33
  super := sup
  interfaces := #[]
  cf := none
  fields := #[]
  methods := #[]
  instanceTypes := #[]
  staticTypes := #[]
  resolved := #[]
  callSites := []
  init := .initialized
  statics := none
  mirror := none

def pool0 : Array CpInfo := pool [(5, u "<init>"), (0, u "()V"), (1, .class_ 10), (1, u "java/lang/Object")] 113

def k0c0 : Code := { maxStack := 0, maxLocals := 1, code := object_method_1_code, exceptionTable := #[], attributes := #[] }
def k0m0 : Method := { name := "<init>", desc := "()V", sig := { parameters := [], returnType := none }, accessFlags := 1, code := some k0c0 }
/-- java/lang/Object -/
def k0 : Class := { plain "java/lang/Object" none with
  accessFlags := 33
  interfaces := #[]
  cf := some (fileOf pool0 8 #[] #[{ accessFlags := 1, nameIndex := 5, descriptorIndex := 6, attributes := #[] }] 33 0 #[] #[])
  fields := #[]
  methods := #[k0m0]
  instanceTypes := #[]
  staticTypes := #[]
  resolved := Array.replicate 124 none
  statics := none }

def pool1 : Array CpInfo := pool [(2, .class_ 4), (1, u "java/lang/Object"), (0, u "<init>"), (0, u "()V"), (0, .integer 2147483647), (0, .class_ 9), (0, u "ShadowRedzoneY"), (0, .methodref 8 11), (0, .nameAndType 5 12), (0, u "(III)V"), (0, .methodref 8 14), (0, .nameAndType 15 16), (0, u "alloc"), (0, u "(I)I"), (0, .methodref 8 18), (0, .nameAndType 19 20), (0, u "quarantineCount"), (0, u "()I"), (0, .methodref 8 22), (0, .nameAndType 23 20), (0, u "quarantineBytes"), (0, .methodref 8 25), (0, .nameAndType 26 20), (0, u "largestFreeRun"), (0, .methodref 8 28), (0, .nameAndType 29 16), (0, u "userSize"), (0, .methodref 8 31), (0, .nameAndType 32 16), (0, u "shadow"), (0, .methodref 8 34), (0, .nameAndType 35 16), (0, u "free"), (0, .methodref 8 37), (0, .nameAndType 38 16), (0, u "quarantineAt"), (0, .methodref 40 41), (0, .class_ 42), (0, .nameAndType 43 16), (0, u "ShadowRedzoneYL6"), (0, u "sizeOf"), (0, .methodref 40 45), (0, .nameAndType 46 47), (0, u "addrOf"), (0, u "(II)I"), (0, .methodref 8 49), (0, .nameAndType 50 47), (0, u "load"), (0, .long 65537), (1, .methodref 8 54), (0, .nameAndType 55 56), (0, u "store"), (0, u "(IIJ)I"), (0, .methodref 8 58), (0, .nameAndType 59 60), (0, u "lastValue"), (0, u "()J"), (0, .methodref 8 62), (0, .nameAndType 63 20), (0, u "lastBadAddress"), (0, .methodref 8 65), (0, .nameAndType 66 20), (0, u "liveCount"), (0, .methodref 8 68), (0, .nameAndType 69 20), (0, u "errorCount"), (0, .methodref 8 71), (0, .nameAndType 72 20), (0, u "freeRunCount"), (3, u "law"), (0, u "([I)Z")] 4

def k1m0 : Method := { name := "<init>", desc := "()V", sig := { parameters := [], returnType := none }, accessFlags := 1, code := none }
def k1c1 : Code := { maxStack := 3, maxLocals := 2, code := method_2_code, exceptionTable := #[], attributes := #[] }
def k1m1 : Method := { name := "sizeOf", desc := "(I)I", sig := { parameters := [.int], returnType := some .int }, accessFlags := 10, code := some k1c1 }
def k1c2 : Code := { maxStack := 3, maxLocals := 2, code := method_3_code, exceptionTable := #[], attributes := #[] }
def k1m2 : Method := { name := "addrOf", desc := "(II)I", sig := { parameters := [.int, .int], returnType := some .int }, accessFlags := 10, code := some k1c2 }
def k1c3 : Code := { maxStack := 7, maxLocals := 19, code := code, exceptionTable := #[], attributes := #[] }
def k1m3 : Method := { name := "law", desc := "([I)Z", sig := { parameters := [(.array .int)], returnType := some .boolean }, accessFlags := 9, code := some k1c3 }
/-- ShadowRedzoneYL6 -/
def k1 : Class := { plain "ShadowRedzoneYL6" (some 0) with
  accessFlags := 33
  interfaces := #[]
  cf := some (fileOf pool1 40 #[] #[{ accessFlags := 1, nameIndex := 5, descriptorIndex := 6, attributes := #[] }, { accessFlags := 10, nameIndex := 43, descriptorIndex := 16, attributes := #[] }, { accessFlags := 10, nameIndex := 46, descriptorIndex := 47, attributes := #[] }, { accessFlags := 9, nameIndex := 76, descriptorIndex := 77, attributes := #[] }] 33 2 #[] #[])
  fields := #[]
  methods := #[k1m0, k1m1, k1m2, k1m3]
  instanceTypes := #[]
  staticTypes := #[]
  resolved := Array.replicate 82 none
  statics := none }

def pool2 : Array CpInfo := pool [(1, .methodref 2 3), (0, .class_ 4), (0, .nameAndType 5 6), (0, u "java/lang/Object"), (0, u "<init>"), (0, u "()V"), (0, .fieldref 8 9), (0, .class_ 10), (0, .nameAndType 11 12), (0, u "ShadowRedzoneY"), (0, u "data"), (0, u "[B"), (0, .fieldref 8 14), (0, .nameAndType 15 16), (0, u "shadowOf"), (0, u "[I"), (0, .fieldref 8 18), (0, .nameAndType 19 16), (0, u "ownerOf"), (0, .fieldref 8 21), (0, .nameAndType 22 16), (0, u "chunkStart"), (0, .fieldref 8 24), (0, .nameAndType 25 16), (0, u "chunkSize"), (0, .fieldref 8 27), (0, .nameAndType 28 12), (0, u "chunkState"), (0, .fieldref 8 30), (0, .nameAndType 31 16), (0, u "ring"), (0, .fieldref 8 33), (0, .nameAndType 34 16), (0, u "runStart"), (0, .fieldref 8 36), (0, .nameAndType 37 16), (0, u "runLength"), (0, .methodref 8 39), (0, .nameAndType 40 41), (0, u "clamp"), (0, u "(III)I"), (0, .fieldref 8 43), (0, .nameAndType 44 45), (0, u "granuleCount"), (0, u "I"), (0, .fieldref 8 47), (0, .nameAndType 48 45), (0, u "redzoneGranules"), (0, .fieldref 8 50), (0, .nameAndType 51 45), (0, u "quarantineBudget"), (0, .fieldref 8 53), (0, .nameAndType 54 45), (0, u "arenaSize"), (0, .methodref 8 56), (0, .nameAndType 57 6), (0, u "resetArena"), (0, .methodref 8 59), (0, .nameAndType 60 6), (0, u "resetChunks"), (0, .methodref 8 62), (0, .nameAndType 63 6), (0, u "resetQuarantine"), (0, .methodref 8 65), (0, .nameAndType 66 6), (0, u "resetRuns"), (0, .fieldref 8 68), (0, .nameAndType 69 45), (0, u "liveChunks"), (0, .fieldref 8 71), (0, .nameAndType 72 73), (0, u "lastLoaded"), (0, u "J"), (0, .fieldref 8 75), (0, .nameAndType 76 45), (0, u "lastBad"), (0, .fieldref 8 78), (0, .nameAndType 79 45), (0, u "errors"), (0, .methodref 8 81), (0, .nameAndType 82 83), (0, u "spanFor"), (0, u "(I)I"), (0, .methodref 8 85), (0, .nameAndType 86 83), (0, u "findRoom"), (0, .methodref 8 88), (0, .nameAndType 89 90), (0, u "findUnusedSlot"), (0, u "()I"), (0, .methodref 8 92), (0, .nameAndType 93 94), (0, u "carveFront"), (0, u "(II)V"), (0, .methodref 8 96), (0, .nameAndType 97 41), (0, u "createChunk"), (0, .methodref 8 99), (0, .nameAndType 100 83), (0, u "slotForUserAddress"), (0, .methodref 8 102), (0, .nameAndType 103 104), (0, u "isQuarantined"), (0, u "(I)Z"), (0, .methodref 8 106), (0, .nameAndType 107 104), (0, u "isLive"), (0, .methodref 8 109), (0, .nameAndType 110 111), (0, u "quarantineChunk"), (0, u "(I)V"), (0, .methodref 8 113), (0, .nameAndType 114 6), (0, u "trimToBudget"), (0, .methodref 8 116), (0, .nameAndType 117 104), (0, u "isAccessSize"), (0, .methodref 8 119), (0, .nameAndType 120 121), (0, u "checkAccess"), (0, u "(II)I"), (0, .methodref 8 123), (0, .nameAndType 124 125), (0, u "readLittleEndian"), (0, u "(II)J"), (0, .methodref 8 127), (0, .nameAndType 128 129), (0, u "writeLittleEndian"), (0, u "(IIJ)V"), (0, .fieldref 8 131), (0, .nameAndType 132 45), (0, u "ringCount"), (0, .fieldref 8 134), (0, .nameAndType 135 45), (0, u "ringBytes"), (0, .fieldref 8 137), (0, .nameAndType 138 45), (0, u "ringHead"), (0, .methodref 8 140), (0, .nameAndType 141 104), (0, u "validSlot"), (0, .methodref 8 143), (0, .nameAndType 144 83), (0, u "userAddressOf"), (0, .fieldref 8 146), (0, .nameAndType 147 45), (0, u "runCount"), (0, .methodref 8 149), (0, .nameAndType 150 83), (0, u "userGranulesFor"), (0, .methodref 8 152), (0, .nameAndType 153 83), (0, u "userGranule"), (0, .methodref 8 155), (0, .nameAndType 156 83), (0, u "rightGranule"), (0, .methodref 8 158), (0, .nameAndType 159 160), (0, u "paintRange"), (0, u "(III)V"), (0, .methodref 8 162), (0, .nameAndType 163 160), (0, u "setOwner"), (0, .methodref 8 165), (0, .nameAndType 166 111), (0, u "paintLiveChunk"), (0, .methodref 8 168), (0, .nameAndType 169 111), (0, u "zeroRequested"), (0, .methodref 8 171), (0, .nameAndType 172 111), (0, u "paintQuarantined"), (0, .methodref 8 174), (0, .nameAndType 175 111), (0, u "enqueue"), (0, .methodref 8 177), (0, .nameAndType 178 94), (0, u "releaseRange"), (0, .methodref 8 180), (0, .nameAndType 181 6), (0, u "evictOldest"), (0, .methodref 8 183), (0, .nameAndType 184 83), (0, u "weightOf"), (0, .methodref 8 186), (0, .nameAndType 187 111), (0, u "destroyChunk"), (0, .methodref 8 189), (0, .nameAndType 190 83), (0, u "findFitRun"), (0, .methodref 8 192), (0, .nameAndType 193 111), (0, u "removeRun"), (0, .methodref 8 195), (0, .nameAndType 196 83), (0, u "runInsertPosition"), (0, .methodref 8 198), (0, .nameAndType 199 160), (0, u "insertRun"), (0, .methodref 8 201), (0, .nameAndType 202 83), (0, u "byteKind"), (0, .methodref 8 204), (0, .nameAndType 205 111), (0, u "recordError"), (0, .methodref 8 207), (0, .nameAndType 208 121), (0, u "kindForShadow"), (0, .long 255), (1, u "SHADOW_LEFT"), (2, u "SHADOW_RIGHT"), (1, u "SHADOW_FREED"), (1, u "SHADOW_WILD"), (1, u "KIND_OK"), (1, u "KIND_LEFT_UNDERFLOW"), (1, u "KIND_RIGHT_OVERFLOW"), (1, u "KIND_USE_AFTER_FREE"), (1, u "KIND_WILD"), (1, u "KIND_OUT_OF_ARENA"), (1, u "KIND_BAD_SIZE"), (1, u "ALLOC_BAD_SIZE"), (1, u "ALLOC_NO_ROOM"), (1, u "FREE_OK"), (0, u "FREE_DOUBLE"), (0, u "FREE_INVALID"), (0, u "MAX_SIZE"), (3, u "alloc"), (1, u "free"), (0, u "load"), (0, u "store"), (0, u "(IIJ)I"), (0, u "lastValue"), (0, u "()J"), (0, u "lastBadAddress"), (0, u "errorCount"), (0, u "shadow"), (0, u "userSize"), (0, u "liveCount"), (0, u "quarantineCount"), (0, u "quarantineBytes"), (0, u "quarantineAt"), (0, u "freeRunCount"), (0, u "largestFreeRun")] 2

def k2c0 : Code := { maxStack := 5, maxLocals := 4, code := prog_1_method_1_code, exceptionTable := #[], attributes := #[] }
def k2m0 : Method := { name := "<init>", desc := "(III)V", sig := { parameters := [.int, .int, .int], returnType := none }, accessFlags := 1, code := some k2c0 }
def k2c1 : Code := { maxStack := 4, maxLocals := 6, code := prog_1_method_2_code, exceptionTable := #[], attributes := #[] }
def k2m1 : Method := { name := "alloc", desc := "(I)I", sig := { parameters := [.int], returnType := some .int }, accessFlags := 1, code := some k2c1 }
def k2c2 : Code := { maxStack := 2, maxLocals := 3, code := prog_1_method_3_code, exceptionTable := #[], attributes := #[] }
def k2m2 : Method := { name := "free", desc := "(I)I", sig := { parameters := [.int], returnType := some .int }, accessFlags := 1, code := some k2c2 }
def k2c3 : Code := { maxStack := 4, maxLocals := 4, code := prog_1_method_4_code, exceptionTable := #[], attributes := #[] }
def k2m3 : Method := { name := "load", desc := "(II)I", sig := { parameters := [.int, .int], returnType := some .int }, accessFlags := 1, code := some k2c3 }
def k2c4 : Code := { maxStack := 5, maxLocals := 6, code := prog_1_method_5_code, exceptionTable := #[], attributes := #[] }
def k2m4 : Method := { name := "store", desc := "(IIJ)I", sig := { parameters := [.int, .int, .long], returnType := some .int }, accessFlags := 1, code := some k2c4 }
def k2c5 : Code := { maxStack := 2, maxLocals := 1, code := prog_1_method_6_code, exceptionTable := #[], attributes := #[] }
def k2m5 : Method := { name := "lastValue", desc := "()J", sig := { parameters := [], returnType := some .long }, accessFlags := 1, code := some k2c5 }
def k2c6 : Code := { maxStack := 1, maxLocals := 1, code := prog_1_method_7_code, exceptionTable := #[], attributes := #[] }
def k2m6 : Method := { name := "lastBadAddress", desc := "()I", sig := { parameters := [], returnType := some .int }, accessFlags := 1, code := some k2c6 }
def k2c7 : Code := { maxStack := 1, maxLocals := 1, code := prog_1_method_8_code, exceptionTable := #[], attributes := #[] }
def k2m7 : Method := { name := "errorCount", desc := "()I", sig := { parameters := [], returnType := some .int }, accessFlags := 1, code := some k2c7 }
def k2c8 : Code := { maxStack := 2, maxLocals := 2, code := prog_1_method_9_code, exceptionTable := #[], attributes := #[] }
def k2m8 : Method := { name := "shadow", desc := "(I)I", sig := { parameters := [.int], returnType := some .int }, accessFlags := 1, code := some k2c8 }
def k2c9 : Code := { maxStack := 2, maxLocals := 3, code := prog_1_method_10_code, exceptionTable := #[], attributes := #[] }
def k2m9 : Method := { name := "userSize", desc := "(I)I", sig := { parameters := [.int], returnType := some .int }, accessFlags := 1, code := some k2c9 }
def k2c10 : Code := { maxStack := 1, maxLocals := 1, code := prog_1_method_11_code, exceptionTable := #[], attributes := #[] }
def k2m10 : Method := { name := "liveCount", desc := "()I", sig := { parameters := [], returnType := some .int }, accessFlags := 1, code := some k2c10 }
def k2c11 : Code := { maxStack := 1, maxLocals := 1, code := prog_1_method_12_code, exceptionTable := #[], attributes := #[] }
def k2m11 : Method := { name := "quarantineCount", desc := "()I", sig := { parameters := [], returnType := some .int }, accessFlags := 1, code := some k2c11 }
def k2c12 : Code := { maxStack := 1, maxLocals := 1, code := prog_1_method_13_code, exceptionTable := #[], attributes := #[] }
def k2m12 : Method := { name := "quarantineBytes", desc := "()I", sig := { parameters := [], returnType := some .int }, accessFlags := 1, code := some k2c12 }
def k2c13 : Code := { maxStack := 3, maxLocals := 3, code := prog_1_method_14_code, exceptionTable := #[], attributes := #[] }
def k2m13 : Method := { name := "quarantineAt", desc := "(I)I", sig := { parameters := [.int], returnType := some .int }, accessFlags := 1, code := some k2c13 }
def k2c14 : Code := { maxStack := 1, maxLocals := 1, code := prog_1_method_15_code, exceptionTable := #[], attributes := #[] }
def k2m14 : Method := { name := "freeRunCount", desc := "()I", sig := { parameters := [], returnType := some .int }, accessFlags := 1, code := some k2c14 }
def k2c15 : Code := { maxStack := 2, maxLocals := 3, code := prog_1_method_16_code, exceptionTable := #[], attributes := #[] }
def k2m15 : Method := { name := "largestFreeRun", desc := "()I", sig := { parameters := [], returnType := some .int }, accessFlags := 1, code := some k2c15 }
def k2c16 : Code := { maxStack := 2, maxLocals := 4, code := prog_1_method_17_code, exceptionTable := #[], attributes := #[] }
def k2m16 : Method := { name := "clamp", desc := "(III)I", sig := { parameters := [.int, .int, .int], returnType := some .int }, accessFlags := 2, code := some k2c16 }
def k2c17 : Code := { maxStack := 3, maxLocals := 2, code := prog_1_method_18_code, exceptionTable := #[], attributes := #[] }
def k2m17 : Method := { name := "resetArena", desc := "()V", sig := { parameters := [], returnType := none }, accessFlags := 2, code := some k2c17 }
def k2c18 : Code := { maxStack := 3, maxLocals := 2, code := prog_1_method_19_code, exceptionTable := #[], attributes := #[] }
def k2m18 : Method := { name := "resetChunks", desc := "()V", sig := { parameters := [], returnType := none }, accessFlags := 2, code := some k2c18 }
def k2c19 : Code := { maxStack := 3, maxLocals := 2, code := prog_1_method_20_code, exceptionTable := #[], attributes := #[] }
def k2m19 : Method := { name := "resetQuarantine", desc := "()V", sig := { parameters := [], returnType := none }, accessFlags := 2, code := some k2c19 }
def k2c20 : Code := { maxStack := 3, maxLocals := 2, code := prog_1_method_21_code, exceptionTable := #[], attributes := #[] }
def k2m20 : Method := { name := "resetRuns", desc := "()V", sig := { parameters := [], returnType := none }, accessFlags := 2, code := some k2c20 }
def k2c21 : Code := { maxStack := 2, maxLocals := 2, code := prog_1_method_22_code, exceptionTable := #[], attributes := #[] }
def k2m21 : Method := { name := "validSlot", desc := "(I)Z", sig := { parameters := [.int], returnType := some .boolean }, accessFlags := 2, code := some k2c21 }
def k2c22 : Code := { maxStack := 2, maxLocals := 2, code := prog_1_method_23_code, exceptionTable := #[], attributes := #[] }
def k2m22 : Method := { name := "isLive", desc := "(I)Z", sig := { parameters := [.int], returnType := some .boolean }, accessFlags := 2, code := some k2c22 }
def k2c23 : Code := { maxStack := 2, maxLocals := 2, code := prog_1_method_24_code, exceptionTable := #[], attributes := #[] }
def k2m23 : Method := { name := "isQuarantined", desc := "(I)Z", sig := { parameters := [.int], returnType := some .boolean }, accessFlags := 2, code := some k2c23 }
def k2c24 : Code := { maxStack := 2, maxLocals := 2, code := prog_1_method_25_code, exceptionTable := #[], attributes := #[] }
def k2m24 : Method := { name := "findUnusedSlot", desc := "()I", sig := { parameters := [], returnType := some .int }, accessFlags := 2, code := some k2c24 }
def k2c25 : Code := { maxStack := 2, maxLocals := 2, code := prog_1_method_26_code, exceptionTable := #[], attributes := #[] }
def k2m25 : Method := { name := "userGranulesFor", desc := "(I)I", sig := { parameters := [.int], returnType := some .int }, accessFlags := 2, code := some k2c25 }
def k2c26 : Code := { maxStack := 3, maxLocals := 2, code := prog_1_method_27_code, exceptionTable := #[], attributes := #[] }
def k2m26 : Method := { name := "spanFor", desc := "(I)I", sig := { parameters := [.int], returnType := some .int }, accessFlags := 2, code := some k2c26 }
def k2c27 : Code := { maxStack := 3, maxLocals := 3, code := prog_1_method_28_code, exceptionTable := #[], attributes := #[] }
def k2m27 : Method := { name := "weightOf", desc := "(I)I", sig := { parameters := [.int], returnType := some .int }, accessFlags := 2, code := some k2c27 }
def k2c28 : Code := { maxStack := 2, maxLocals := 2, code := prog_1_method_29_code, exceptionTable := #[], attributes := #[] }
def k2m28 : Method := { name := "userGranule", desc := "(I)I", sig := { parameters := [.int], returnType := some .int }, accessFlags := 2, code := some k2c28 }
def k2c29 : Code := { maxStack := 2, maxLocals := 3, code := prog_1_method_30_code, exceptionTable := #[], attributes := #[] }
def k2m29 : Method := { name := "userAddressOf", desc := "(I)I", sig := { parameters := [.int], returnType := some .int }, accessFlags := 2, code := some k2c29 }
def k2c30 : Code := { maxStack := 3, maxLocals := 3, code := prog_1_method_31_code, exceptionTable := #[], attributes := #[] }
def k2m30 : Method := { name := "rightGranule", desc := "(I)I", sig := { parameters := [.int], returnType := some .int }, accessFlags := 2, code := some k2c30 }
def k2c31 : Code := { maxStack := 2, maxLocals := 4, code := prog_1_method_32_code, exceptionTable := #[], attributes := #[] }
def k2m31 : Method := { name := "slotForUserAddress", desc := "(I)I", sig := { parameters := [.int], returnType := some .int }, accessFlags := 2, code := some k2c31 }
def k2c32 : Code := { maxStack := 3, maxLocals := 6, code := prog_1_method_33_code, exceptionTable := #[], attributes := #[] }
def k2m32 : Method := { name := "paintRange", desc := "(III)V", sig := { parameters := [.int, .int, .int], returnType := none }, accessFlags := 2, code := some k2c32 }
def k2c33 : Code := { maxStack := 3, maxLocals := 6, code := prog_1_method_34_code, exceptionTable := #[], attributes := #[] }
def k2m33 : Method := { name := "setOwner", desc := "(III)V", sig := { parameters := [.int, .int, .int], returnType := none }, accessFlags := 2, code := some k2c33 }
def k2c34 : Code := { maxStack := 4, maxLocals := 9, code := prog_1_method_35_code, exceptionTable := #[], attributes := #[] }
def k2m34 : Method := { name := "paintLiveChunk", desc := "(I)V", sig := { parameters := [.int], returnType := none }, accessFlags := 2, code := some k2c34 }
def k2c35 : Code := { maxStack := 4, maxLocals := 5, code := prog_1_method_36_code, exceptionTable := #[], attributes := #[] }
def k2m35 : Method := { name := "paintQuarantined", desc := "(I)V", sig := { parameters := [.int], returnType := none }, accessFlags := 2, code := some k2c35 }
def k2c36 : Code := { maxStack := 3, maxLocals := 6, code := prog_1_method_37_code, exceptionTable := #[], attributes := #[] }
def k2m36 : Method := { name := "zeroRequested", desc := "(I)V", sig := { parameters := [.int], returnType := none }, accessFlags := 2, code := some k2c36 }
def k2c37 : Code := { maxStack := 4, maxLocals := 5, code := prog_1_method_38_code, exceptionTable := #[], attributes := #[] }
def k2m37 : Method := { name := "createChunk", desc := "(III)I", sig := { parameters := [.int, .int, .int], returnType := some .int }, accessFlags := 2, code := some k2c37 }
def k2c38 : Code := { maxStack := 3, maxLocals := 2, code := prog_1_method_39_code, exceptionTable := #[], attributes := #[] }
def k2m38 : Method := { name := "quarantineChunk", desc := "(I)V", sig := { parameters := [.int], returnType := none }, accessFlags := 2, code := some k2c38 }
def k2c39 : Code := { maxStack := 4, maxLocals := 5, code := prog_1_method_40_code, exceptionTable := #[], attributes := #[] }
def k2m39 : Method := { name := "destroyChunk", desc := "(I)V", sig := { parameters := [.int], returnType := none }, accessFlags := 2, code := some k2c39 }
def k2c40 : Code := { maxStack := 4, maxLocals := 3, code := prog_1_method_41_code, exceptionTable := #[], attributes := #[] }
def k2m40 : Method := { name := "enqueue", desc := "(I)V", sig := { parameters := [.int], returnType := none }, accessFlags := 2, code := some k2c40 }
def k2c41 : Code := { maxStack := 4, maxLocals := 2, code := prog_1_method_42_code, exceptionTable := #[], attributes := #[] }
def k2m41 : Method := { name := "evictOldest", desc := "()V", sig := { parameters := [], returnType := none }, accessFlags := 2, code := some k2c41 }
def k2c42 : Code := { maxStack := 2, maxLocals := 2, code := prog_1_method_43_code, exceptionTable := #[], attributes := #[] }
def k2m42 : Method := { name := "trimToBudget", desc := "()V", sig := { parameters := [], returnType := none }, accessFlags := 2, code := some k2c42 }
def k2c43 : Code := { maxStack := 2, maxLocals := 4, code := prog_1_method_44_code, exceptionTable := #[], attributes := #[] }
def k2m43 : Method := { name := "findRoom", desc := "(I)I", sig := { parameters := [.int], returnType := some .int }, accessFlags := 2, code := some k2c43 }
def k2c44 : Code := { maxStack := 2, maxLocals := 3, code := prog_1_method_45_code, exceptionTable := #[], attributes := #[] }
def k2m44 : Method := { name := "findFitRun", desc := "(I)I", sig := { parameters := [.int], returnType := some .int }, accessFlags := 2, code := some k2c44 }
def k2c45 : Code := { maxStack := 4, maxLocals := 3, code := prog_1_method_46_code, exceptionTable := #[], attributes := #[] }
def k2m45 : Method := { name := "carveFront", desc := "(II)V", sig := { parameters := [.int, .int], returnType := none }, accessFlags := 2, code := some k2c45 }
def k2c46 : Code := { maxStack := 5, maxLocals := 3, code := prog_1_method_47_code, exceptionTable := #[], attributes := #[] }
def k2m46 : Method := { name := "removeRun", desc := "(I)V", sig := { parameters := [.int], returnType := none }, accessFlags := 2, code := some k2c46 }
def k2c47 : Code := { maxStack := 5, maxLocals := 5, code := prog_1_method_48_code, exceptionTable := #[], attributes := #[] }
def k2m47 : Method := { name := "insertRun", desc := "(III)V", sig := { parameters := [.int, .int, .int], returnType := none }, accessFlags := 2, code := some k2c47 }
def k2c48 : Code := { maxStack := 2, maxLocals := 3, code := prog_1_method_49_code, exceptionTable := #[], attributes := #[] }
def k2m48 : Method := { name := "runInsertPosition", desc := "(I)I", sig := { parameters := [.int], returnType := some .int }, accessFlags := 2, code := some k2c48 }
def k2c49 : Code := { maxStack := 6, maxLocals := 6, code := prog_1_method_50_code, exceptionTable := #[], attributes := #[] }
def k2m49 : Method := { name := "releaseRange", desc := "(II)V", sig := { parameters := [.int, .int], returnType := none }, accessFlags := 2, code := some k2c49 }
def k2c50 : Code := { maxStack := 2, maxLocals := 2, code := prog_1_method_51_code, exceptionTable := #[], attributes := #[] }
def k2m50 : Method := { name := "isAccessSize", desc := "(I)Z", sig := { parameters := [.int], returnType := some .boolean }, accessFlags := 2, code := some k2c50 }
def k2c51 : Code := { maxStack := 2, maxLocals := 6, code := prog_1_method_52_code, exceptionTable := #[], attributes := #[] }
def k2m51 : Method := { name := "checkAccess", desc := "(II)I", sig := { parameters := [.int, .int], returnType := some .int }, accessFlags := 2, code := some k2c51 }
def k2c52 : Code := { maxStack := 3, maxLocals := 2, code := prog_1_method_53_code, exceptionTable := #[], attributes := #[] }
def k2m52 : Method := { name := "recordError", desc := "(I)V", sig := { parameters := [.int], returnType := none }, accessFlags := 2, code := some k2c52 }
def k2c53 : Code := { maxStack := 3, maxLocals := 5, code := prog_1_method_54_code, exceptionTable := #[], attributes := #[] }
def k2m53 : Method := { name := "byteKind", desc := "(I)I", sig := { parameters := [.int], returnType := some .int }, accessFlags := 2, code := some k2c53 }
def k2c54 : Code := { maxStack := 2, maxLocals := 3, code := prog_1_method_55_code, exceptionTable := #[], attributes := #[] }
def k2m54 : Method := { name := "kindForShadow", desc := "(II)I", sig := { parameters := [.int, .int], returnType := some .int }, accessFlags := 2, code := some k2c54 }
def k2c55 : Code := { maxStack := 6, maxLocals := 9, code := prog_1_method_56_code, exceptionTable := #[], attributes := #[] }
def k2m55 : Method := { name := "readLittleEndian", desc := "(II)J", sig := { parameters := [.int, .int], returnType := some .long }, accessFlags := 2, code := some k2c55 }
def k2c56 : Code := { maxStack := 6, maxLocals := 7, code := prog_1_method_57_code, exceptionTable := #[], attributes := #[] }
def k2m56 : Method := { name := "writeLittleEndian", desc := "(IIJ)V", sig := { parameters := [.int, .int, .long], returnType := none }, accessFlags := 2, code := some k2c56 }
/-- ShadowRedzoneY -/
def k2 : Class := { plain "ShadowRedzoneY" (some 0) with
  accessFlags := 49
  interfaces := #[]
  cf := some (fileOf pool2 8 #[] #[{ accessFlags := 1, nameIndex := 5, descriptorIndex := 160, attributes := #[] }, { accessFlags := 1, nameIndex := 245, descriptorIndex := 83, attributes := #[] }, { accessFlags := 1, nameIndex := 247, descriptorIndex := 83, attributes := #[] }, { accessFlags := 1, nameIndex := 248, descriptorIndex := 121, attributes := #[] }, { accessFlags := 1, nameIndex := 249, descriptorIndex := 250, attributes := #[] }, { accessFlags := 1, nameIndex := 251, descriptorIndex := 252, attributes := #[] }, { accessFlags := 1, nameIndex := 253, descriptorIndex := 90, attributes := #[] }, { accessFlags := 1, nameIndex := 254, descriptorIndex := 90, attributes := #[] }, { accessFlags := 1, nameIndex := 255, descriptorIndex := 83, attributes := #[] }, { accessFlags := 1, nameIndex := 256, descriptorIndex := 83, attributes := #[] }, { accessFlags := 1, nameIndex := 257, descriptorIndex := 90, attributes := #[] }, { accessFlags := 1, nameIndex := 258, descriptorIndex := 90, attributes := #[] }, { accessFlags := 1, nameIndex := 259, descriptorIndex := 90, attributes := #[] }, { accessFlags := 1, nameIndex := 260, descriptorIndex := 83, attributes := #[] }, { accessFlags := 1, nameIndex := 261, descriptorIndex := 90, attributes := #[] }, { accessFlags := 1, nameIndex := 262, descriptorIndex := 90, attributes := #[] }, { accessFlags := 2, nameIndex := 40, descriptorIndex := 41, attributes := #[] }, { accessFlags := 2, nameIndex := 57, descriptorIndex := 6, attributes := #[] }, { accessFlags := 2, nameIndex := 60, descriptorIndex := 6, attributes := #[] }, { accessFlags := 2, nameIndex := 63, descriptorIndex := 6, attributes := #[] }, { accessFlags := 2, nameIndex := 66, descriptorIndex := 6, attributes := #[] }, { accessFlags := 2, nameIndex := 141, descriptorIndex := 104, attributes := #[] }, { accessFlags := 2, nameIndex := 107, descriptorIndex := 104, attributes := #[] }, { accessFlags := 2, nameIndex := 103, descriptorIndex := 104, attributes := #[] }, { accessFlags := 2, nameIndex := 89, descriptorIndex := 90, attributes := #[] }, { accessFlags := 2, nameIndex := 150, descriptorIndex := 83, attributes := #[] }, { accessFlags := 2, nameIndex := 82, descriptorIndex := 83, attributes := #[] }, { accessFlags := 2, nameIndex := 184, descriptorIndex := 83, attributes := #[] }, { accessFlags := 2, nameIndex := 153, descriptorIndex := 83, attributes := #[] }, { accessFlags := 2, nameIndex := 144, descriptorIndex := 83, attributes := #[] }, { accessFlags := 2, nameIndex := 156, descriptorIndex := 83, attributes := #[] }, { accessFlags := 2, nameIndex := 100, descriptorIndex := 83, attributes := #[] }, { accessFlags := 2, nameIndex := 159, descriptorIndex := 160, attributes := #[] }, { accessFlags := 2, nameIndex := 163, descriptorIndex := 160, attributes := #[] }, { accessFlags := 2, nameIndex := 166, descriptorIndex := 111, attributes := #[] }, { accessFlags := 2, nameIndex := 172, descriptorIndex := 111, attributes := #[] }, { accessFlags := 2, nameIndex := 169, descriptorIndex := 111, attributes := #[] }, { accessFlags := 2, nameIndex := 97, descriptorIndex := 41, attributes := #[] }, { accessFlags := 2, nameIndex := 110, descriptorIndex := 111, attributes := #[] }, { accessFlags := 2, nameIndex := 187, descriptorIndex := 111, attributes := #[] }, { accessFlags := 2, nameIndex := 175, descriptorIndex := 111, attributes := #[] }, { accessFlags := 2, nameIndex := 181, descriptorIndex := 6, attributes := #[] }, { accessFlags := 2, nameIndex := 114, descriptorIndex := 6, attributes := #[] }, { accessFlags := 2, nameIndex := 86, descriptorIndex := 83, attributes := #[] }, { accessFlags := 2, nameIndex := 190, descriptorIndex := 83, attributes := #[] }, { accessFlags := 2, nameIndex := 93, descriptorIndex := 94, attributes := #[] }, { accessFlags := 2, nameIndex := 193, descriptorIndex := 111, attributes := #[] }, { accessFlags := 2, nameIndex := 199, descriptorIndex := 160, attributes := #[] }, { accessFlags := 2, nameIndex := 196, descriptorIndex := 83, attributes := #[] }, { accessFlags := 2, nameIndex := 178, descriptorIndex := 94, attributes := #[] }, { accessFlags := 2, nameIndex := 117, descriptorIndex := 104, attributes := #[] }, { accessFlags := 2, nameIndex := 120, descriptorIndex := 121, attributes := #[] }, { accessFlags := 2, nameIndex := 205, descriptorIndex := 111, attributes := #[] }, { accessFlags := 2, nameIndex := 202, descriptorIndex := 83, attributes := #[] }, { accessFlags := 2, nameIndex := 208, descriptorIndex := 121, attributes := #[] }, { accessFlags := 2, nameIndex := 124, descriptorIndex := 125, attributes := #[] }, { accessFlags := 2, nameIndex := 128, descriptorIndex := 129, attributes := #[] }] 49 2 #[] #[{ accessFlags := 25, nameIndex := 211, descriptorIndex := 45, attributes := #[] }, { accessFlags := 25, nameIndex := 214, descriptorIndex := 45, attributes := #[] }, { accessFlags := 25, nameIndex := 216, descriptorIndex := 45, attributes := #[] }, { accessFlags := 25, nameIndex := 218, descriptorIndex := 45, attributes := #[] }, { accessFlags := 25, nameIndex := 220, descriptorIndex := 45, attributes := #[] }, { accessFlags := 25, nameIndex := 222, descriptorIndex := 45, attributes := #[] }, { accessFlags := 25, nameIndex := 224, descriptorIndex := 45, attributes := #[] }, { accessFlags := 25, nameIndex := 226, descriptorIndex := 45, attributes := #[] }, { accessFlags := 25, nameIndex := 228, descriptorIndex := 45, attributes := #[] }, { accessFlags := 25, nameIndex := 230, descriptorIndex := 45, attributes := #[] }, { accessFlags := 25, nameIndex := 232, descriptorIndex := 45, attributes := #[] }, { accessFlags := 25, nameIndex := 234, descriptorIndex := 45, attributes := #[] }, { accessFlags := 25, nameIndex := 236, descriptorIndex := 45, attributes := #[] }, { accessFlags := 25, nameIndex := 238, descriptorIndex := 45, attributes := #[] }, { accessFlags := 25, nameIndex := 239, descriptorIndex := 45, attributes := #[] }, { accessFlags := 25, nameIndex := 240, descriptorIndex := 45, attributes := #[] }, { accessFlags := 25, nameIndex := 241, descriptorIndex := 45, attributes := #[] }, { accessFlags := 2, nameIndex := 44, descriptorIndex := 45, attributes := #[] }, { accessFlags := 2, nameIndex := 48, descriptorIndex := 45, attributes := #[] }, { accessFlags := 2, nameIndex := 51, descriptorIndex := 45, attributes := #[] }, { accessFlags := 2, nameIndex := 54, descriptorIndex := 45, attributes := #[] }, { accessFlags := 18, nameIndex := 11, descriptorIndex := 12, attributes := #[] }, { accessFlags := 18, nameIndex := 15, descriptorIndex := 16, attributes := #[] }, { accessFlags := 18, nameIndex := 19, descriptorIndex := 16, attributes := #[] }, { accessFlags := 18, nameIndex := 22, descriptorIndex := 16, attributes := #[] }, { accessFlags := 18, nameIndex := 25, descriptorIndex := 16, attributes := #[] }, { accessFlags := 18, nameIndex := 28, descriptorIndex := 12, attributes := #[] }, { accessFlags := 18, nameIndex := 31, descriptorIndex := 16, attributes := #[] }, { accessFlags := 2, nameIndex := 138, descriptorIndex := 45, attributes := #[] }, { accessFlags := 2, nameIndex := 132, descriptorIndex := 45, attributes := #[] }, { accessFlags := 2, nameIndex := 135, descriptorIndex := 45, attributes := #[] }, { accessFlags := 18, nameIndex := 34, descriptorIndex := 16, attributes := #[] }, { accessFlags := 18, nameIndex := 37, descriptorIndex := 16, attributes := #[] }, { accessFlags := 2, nameIndex := 147, descriptorIndex := 45, attributes := #[] }, { accessFlags := 2, nameIndex := 69, descriptorIndex := 45, attributes := #[] }, { accessFlags := 2, nameIndex := 72, descriptorIndex := 73, attributes := #[] }, { accessFlags := 2, nameIndex := 76, descriptorIndex := 45, attributes := #[] }, { accessFlags := 2, nameIndex := 79, descriptorIndex := 45, attributes := #[] }])
  fields := #[{ name := "SHADOW_LEFT", type := .int, accessFlags := 25, slot := 0, constantValue := 0 }, { name := "SHADOW_RIGHT", type := .int, accessFlags := 25, slot := 1, constantValue := 0 }, { name := "SHADOW_FREED", type := .int, accessFlags := 25, slot := 2, constantValue := 0 }, { name := "SHADOW_WILD", type := .int, accessFlags := 25, slot := 3, constantValue := 0 }, { name := "KIND_OK", type := .int, accessFlags := 25, slot := 4, constantValue := 0 }, { name := "KIND_LEFT_UNDERFLOW", type := .int, accessFlags := 25, slot := 5, constantValue := 0 }, { name := "KIND_RIGHT_OVERFLOW", type := .int, accessFlags := 25, slot := 6, constantValue := 0 }, { name := "KIND_USE_AFTER_FREE", type := .int, accessFlags := 25, slot := 7, constantValue := 0 }, { name := "KIND_WILD", type := .int, accessFlags := 25, slot := 8, constantValue := 0 }, { name := "KIND_OUT_OF_ARENA", type := .int, accessFlags := 25, slot := 9, constantValue := 0 }, { name := "KIND_BAD_SIZE", type := .int, accessFlags := 25, slot := 10, constantValue := 0 }, { name := "ALLOC_BAD_SIZE", type := .int, accessFlags := 25, slot := 11, constantValue := 0 }, { name := "ALLOC_NO_ROOM", type := .int, accessFlags := 25, slot := 12, constantValue := 0 }, { name := "FREE_OK", type := .int, accessFlags := 25, slot := 13, constantValue := 0 }, { name := "FREE_DOUBLE", type := .int, accessFlags := 25, slot := 14, constantValue := 0 }, { name := "FREE_INVALID", type := .int, accessFlags := 25, slot := 15, constantValue := 0 }, { name := "MAX_SIZE", type := .int, accessFlags := 25, slot := 16, constantValue := 0 }, { name := "granuleCount", type := .int, accessFlags := 2, slot := 0, constantValue := 0 }, { name := "redzoneGranules", type := .int, accessFlags := 2, slot := 1, constantValue := 0 }, { name := "quarantineBudget", type := .int, accessFlags := 2, slot := 2, constantValue := 0 }, { name := "arenaSize", type := .int, accessFlags := 2, slot := 3, constantValue := 0 }, { name := "data", type := (.array .byte), accessFlags := 18, slot := 4, constantValue := 0 }, { name := "shadowOf", type := (.array .int), accessFlags := 18, slot := 5, constantValue := 0 }, { name := "ownerOf", type := (.array .int), accessFlags := 18, slot := 6, constantValue := 0 }, { name := "chunkStart", type := (.array .int), accessFlags := 18, slot := 7, constantValue := 0 }, { name := "chunkSize", type := (.array .int), accessFlags := 18, slot := 8, constantValue := 0 }, { name := "chunkState", type := (.array .byte), accessFlags := 18, slot := 9, constantValue := 0 }, { name := "ring", type := (.array .int), accessFlags := 18, slot := 10, constantValue := 0 }, { name := "ringHead", type := .int, accessFlags := 2, slot := 11, constantValue := 0 }, { name := "ringCount", type := .int, accessFlags := 2, slot := 12, constantValue := 0 }, { name := "ringBytes", type := .int, accessFlags := 2, slot := 13, constantValue := 0 }, { name := "runStart", type := (.array .int), accessFlags := 18, slot := 14, constantValue := 0 }, { name := "runLength", type := (.array .int), accessFlags := 18, slot := 15, constantValue := 0 }, { name := "runCount", type := .int, accessFlags := 2, slot := 16, constantValue := 0 }, { name := "liveChunks", type := .int, accessFlags := 2, slot := 17, constantValue := 0 }, { name := "lastLoaded", type := .long, accessFlags := 2, slot := 18, constantValue := 0 }, { name := "lastBad", type := .int, accessFlags := 2, slot := 19, constantValue := 0 }, { name := "errors", type := .int, accessFlags := 2, slot := 20, constantValue := 0 }]
  methods := #[k2m0, k2m1, k2m2, k2m3, k2m4, k2m5, k2m6, k2m7, k2m8, k2m9, k2m10, k2m11, k2m12, k2m13, k2m14, k2m15, k2m16, k2m17, k2m18, k2m19, k2m20, k2m21, k2m22, k2m23, k2m24, k2m25, k2m26, k2m27, k2m28, k2m29, k2m30, k2m31, k2m32, k2m33, k2m34, k2m35, k2m36, k2m37, k2m38, k2m39, k2m40, k2m41, k2m42, k2m43, k2m44, k2m45, k2m46, k2m47, k2m48, k2m49, k2m50, k2m51, k2m52, k2m53, k2m54, k2m55, k2m56]
  instanceTypes := #[.int, .int, .int, .int, (.array .byte), (.array .int), (.array .int), (.array .int), (.array .int), (.array .byte), (.array .int), .int, .int, .int, (.array .int), (.array .int), .int, .int, .long, .int, .int]
  staticTypes := #[.int, .int, .int, .int, .int, .int, .int, .int, .int, .int, .int, .int, .int, .int, .int, .int, .int]
  resolved := Array.replicate 265 none
  statics := none }

def pool3 : Array CpInfo := pool [(1, u "java/lang/Cloneable"), (0, .class_ 1), (0, u "java/lang/Object"), (0, .class_ 3)] 3

/-- java/lang/Cloneable -/
def k3 : Class := { plain "java/lang/Cloneable" (some 0) with
  accessFlags := 1537
  interfaces := #[]
  cf := some (fileOf pool3 2 #[] #[] 1537 4 #[] #[])
  fields := #[]
  methods := #[]
  instanceTypes := #[]
  staticTypes := #[]
  resolved := Array.replicate 8 none
  statics := none }

def pool4 : Array CpInfo := pool [(1, u "java/io/Serializable"), (0, .class_ 1), (0, u "java/lang/Object"), (0, .class_ 3)] 3

/-- java/io/Serializable -/
def k4 : Class := { plain "java/io/Serializable" (some 0) with
  accessFlags := 1537
  interfaces := #[]
  cf := some (fileOf pool4 2 #[] #[] 1537 4 #[] #[])
  fields := #[]
  methods := #[]
  instanceTypes := #[]
  staticTypes := #[]
  resolved := Array.replicate 8 none
  statics := none }

/-- the primitive byte -/
def k5 : Class := { plain "byte" none with kind := .primitive 'B', accessFlags := 0x411 }
/-- [B -/
def k6 : Class := { plain "[B" (some 0) with kind := .array 5 .byte, interfaces := #[3, 4], accessFlags := 1041 }

/-- the primitive int -/
def k7 : Class := { plain "int" none with kind := .primitive 'I', accessFlags := 0x411 }
/-- [I -/
def k8 : Class := { plain "[I" (some 0) with kind := .array 7 .int, interfaces := #[3, 4], accessFlags := 1041 }

def heap : Heap := #[{ cls := 8, slots := #[.int 0, .int 1, .int 2], vm := .none }]
def classes : Array Class := #[k0, k1, k2, k3, k4, k5, k6, k7, k8]
def interned : List (Array UInt16 × Addr) := []
def slotsUsed : Nat := 3
def theMethod : MethodId := ⟨1, 3⟩
def args0 : Array Value := #[.ref 0]
def aboutOver (below : List Frame) : State where
  vm := { classes := classes, interned := interned.toArray }
  heap := heap
  slotsUsed := slotsUsed
  threads := #[{ frames := .invoking theMethod args0 :: below }]
def below0 : List Frame := [.native { method := ⟨0, 0⟩, args := #[] }]
def about1 : State := aboutOver below0
def p0 : Program := .bare "" "" ""
def e0 : Env := launch0.env 0 0 0
theorem w_frames : about1.frames = Frame.invoking theMethod args0 :: below0 := rfl
set_option maxRecDepth 65536 in
theorem w_args : argsFit about1.vm theMethod args0 = true := by decide +kernel
set_option maxRecDepth 65536 in
theorem w_heap : heapFits about1 = true := by decide +kernel
set_option maxRecDepth 65536 in
theorem w_runnable : about1.curStatus? = some .runnable := by decide +kernel
set_option maxRecDepth 65536 in
theorem w_alone : about1.alone = true := by decide +kernel
set_option maxRecDepth 65536 in
theorem w_named : about1.methodNamed? x = some theMethod := by decide +kernel
set_option maxRecDepth 65536 in
theorem w_hears : about1.hears theMethod below0 = true := by decide +kernel
set_option maxRecDepth 65536 in
theorem w_ripe : about1.ripe theMethod args0 below0 = true := by decide +kernel
theorem w_running : about1.status = .running := rfl
set_option maxRecDepth 65536 in
theorem w_room : about1.hasRoom e0.platform room_1 = true :=
  launch0.hasRoom_least _ room_1 (by decide +kernel) (by decide +kernel) (by decide +kernel) (by decide +kernel) (by decide +kernel) (by decide +kernel)
theorem allAtoms_all (ts : List Jvm.Cond) (a : Array Jvm.Value) (st : Jvm.State) : (allAtoms ts).before a st = ts.all (fun c => c.before a st) := by
  induction ts with
  | nil => rfl
  | cons c t ih =>
    show (Jvm.Cond.and c (allAtoms t)).before a st = _
    rw [Jvm.Cond.before_and, ih, List.all_cons]
def words1 : List Jvm.Cond := Jvm.Cond.code x code maxLocals ret :: tables_1
/-- a 'code' word, met by the world's own term for the bytes: nothing is compared byte by byte -/
theorem code_word {y : MethodName} {bytes : ByteArray} {mx : Nat} {rt : Option FieldType} {a : Array Value} {s : State} {m : MethodId} {meth : Method} {c : Code} (h1 : s.methodNamed? y = some m) (h2 : s.vm.method? m = some meth) (h3 : meth.code = some c) (h4 : c.code = bytes)
    (h5 : (c.maxLocals == mx && c.exceptionTable.isEmpty && decide (c.maxStack ≤ mostOperands) && decide (meth.sig.returnType = rt) && !meth.locks && decide (parseMethodDescriptor y.desc = some meth.sig)) = true) : (Jvm.Cond.code y bytes mx rt).before a s = true := by
  simp only [Bool.and_eq_true, beq_iff_eq, Bool.not_eq_true', decide_eq_true_eq] at h5
  obtain ⟨⟨⟨⟨⟨g1, g2⟩, g3⟩, g4⟩, g5⟩, g6⟩ := h5
  simp [Cond.before, Cond.holds, Cond.value, h1, h2, h3, h4, g1, g2, g3, g4, g5, g6]
def isCode : Jvm.Cond → Bool
  | .code _ _ _ _ => true
  | _ => false
theorem all_split {L : List Jvm.Cond} {P : Jvm.Cond → Bool} (h1 : L.all (fun c => isCode c || P c) = true) (h2 : ∀ c ∈ L.filter isCode, P c = true) : L.all P = true := by
  refine List.all_eq_true.mpr fun c hc => ?_
  have h := List.all_eq_true.mp h1 c hc
  rcases Bool.eq_false_or_eq_true (isCode c) with hi | hi
  · exact h2 c (List.mem_filter.mpr ⟨hc, hi⟩)
  · simpa [hi] using h
set_option maxRecDepth 65536 in
theorem w_c0 : (Jvm.Cond.code x code maxLocals ret).before args0 about1 = true := code_word (m := ⟨1, 3⟩) (meth := k1m3) (c := k1c3) (by decide +kernel) rfl rfl rfl (by decide +kernel)
set_option maxRecDepth 65536 in
theorem w_c1 : (Jvm.Cond.code ({ cls := "ShadowRedzoneY", name := "<init>", desc := "(III)V" } : Jvm.MethodName) prog_1_method_1_code (4 : Nat) (Option.none : Option Jvm.ClassFile.FieldType)).before args0 about1 = true := code_word (m := ⟨2, 0⟩) (meth := k2m0) (c := k2c0) (by decide +kernel) rfl rfl rfl (by decide +kernel)
set_option maxRecDepth 65536 in
theorem w_c2 : (Jvm.Cond.code ({ cls := "java/lang/Object", name := "<init>", desc := "()V" } : Jvm.MethodName) object_method_1_code (1 : Nat) (Option.none : Option Jvm.ClassFile.FieldType)).before args0 about1 = true := code_word (m := ⟨0, 0⟩) (meth := k0m0) (c := k0c0) (by decide +kernel) rfl rfl rfl (by decide +kernel)
set_option maxRecDepth 65536 in
theorem w_c3 : (Jvm.Cond.code ({ cls := "ShadowRedzoneY", name := "clamp", desc := "(III)I" } : Jvm.MethodName) prog_1_method_17_code (4 : Nat) (Option.some Jvm.ClassFile.FieldType.int)).before args0 about1 = true := code_word (m := ⟨2, 16⟩) (meth := k2m16) (c := k2c16) (by decide +kernel) rfl rfl rfl (by decide +kernel)
set_option maxRecDepth 65536 in
theorem w_c4 : (Jvm.Cond.code ({ cls := "ShadowRedzoneY", name := "resetArena", desc := "()V" } : Jvm.MethodName) prog_1_method_18_code (2 : Nat) (Option.none : Option Jvm.ClassFile.FieldType)).before args0 about1 = true := code_word (m := ⟨2, 17⟩) (meth := k2m17) (c := k2c17) (by decide +kernel) rfl rfl rfl (by decide +kernel)
set_option maxRecDepth 65536 in
theorem w_c5 : (Jvm.Cond.code ({ cls := "ShadowRedzoneY", name := "resetChunks", desc := "()V" } : Jvm.MethodName) prog_1_method_19_code (2 : Nat) (Option.none : Option Jvm.ClassFile.FieldType)).before args0 about1 = true := code_word (m := ⟨2, 18⟩) (meth := k2m18) (c := k2c18) (by decide +kernel) rfl rfl rfl (by decide +kernel)
set_option maxRecDepth 65536 in
theorem w_c6 : (Jvm.Cond.code ({ cls := "ShadowRedzoneY", name := "resetQuarantine", desc := "()V" } : Jvm.MethodName) prog_1_method_20_code (2 : Nat) (Option.none : Option Jvm.ClassFile.FieldType)).before args0 about1 = true := code_word (m := ⟨2, 19⟩) (meth := k2m19) (c := k2c19) (by decide +kernel) rfl rfl rfl (by decide +kernel)
set_option maxRecDepth 65536 in
theorem w_c7 : (Jvm.Cond.code ({ cls := "ShadowRedzoneY", name := "resetRuns", desc := "()V" } : Jvm.MethodName) prog_1_method_21_code (2 : Nat) (Option.none : Option Jvm.ClassFile.FieldType)).before args0 about1 = true := code_word (m := ⟨2, 20⟩) (meth := k2m20) (c := k2c20) (by decide +kernel) rfl rfl rfl (by decide +kernel)
set_option maxRecDepth 65536 in
theorem w_c8 : (Jvm.Cond.code ({ cls := "ShadowRedzoneYL6", name := "sizeOf", desc := "(I)I" } : Jvm.MethodName) method_2_code (2 : Nat) (Option.some Jvm.ClassFile.FieldType.int)).before args0 about1 = true := code_word (m := ⟨1, 1⟩) (meth := k1m1) (c := k1c1) (by decide +kernel) rfl rfl rfl (by decide +kernel)
set_option maxRecDepth 65536 in
theorem w_c9 : (Jvm.Cond.code ({ cls := "ShadowRedzoneYL6", name := "addrOf", desc := "(II)I" } : Jvm.MethodName) method_3_code (2 : Nat) (Option.some Jvm.ClassFile.FieldType.int)).before args0 about1 = true := code_word (m := ⟨1, 2⟩) (meth := k1m2) (c := k1c2) (by decide +kernel) rfl rfl rfl (by decide +kernel)
set_option maxRecDepth 65536 in
theorem w_c10 : (Jvm.Cond.code ({ cls := "ShadowRedzoneY", name := "store", desc := "(IIJ)I" } : Jvm.MethodName) prog_1_method_5_code (6 : Nat) (Option.some Jvm.ClassFile.FieldType.int)).before args0 about1 = true := code_word (m := ⟨2, 4⟩) (meth := k2m4) (c := k2c4) (by decide +kernel) rfl rfl rfl (by decide +kernel)
set_option maxRecDepth 65536 in
theorem w_c11 : (Jvm.Cond.code ({ cls := "ShadowRedzoneY", name := "isAccessSize", desc := "(I)Z" } : Jvm.MethodName) prog_1_method_51_code (2 : Nat) (Option.some Jvm.ClassFile.FieldType.boolean)).before args0 about1 = true := code_word (m := ⟨2, 50⟩) (meth := k2m50) (c := k2c50) (by decide +kernel) rfl rfl rfl (by decide +kernel)
set_option maxRecDepth 65536 in
theorem w_c12 : (Jvm.Cond.code ({ cls := "ShadowRedzoneY", name := "checkAccess", desc := "(II)I" } : Jvm.MethodName) prog_1_method_52_code (6 : Nat) (Option.some Jvm.ClassFile.FieldType.int)).before args0 about1 = true := code_word (m := ⟨2, 51⟩) (meth := k2m51) (c := k2c51) (by decide +kernel) rfl rfl rfl (by decide +kernel)
set_option maxRecDepth 65536 in
theorem w_c13 : (Jvm.Cond.code ({ cls := "ShadowRedzoneY", name := "byteKind", desc := "(I)I" } : Jvm.MethodName) prog_1_method_54_code (5 : Nat) (Option.some Jvm.ClassFile.FieldType.int)).before args0 about1 = true := code_word (m := ⟨2, 53⟩) (meth := k2m53) (c := k2c53) (by decide +kernel) rfl rfl rfl (by decide +kernel)
set_option maxRecDepth 65536 in
theorem w_c14 : (Jvm.Cond.code ({ cls := "ShadowRedzoneY", name := "kindForShadow", desc := "(II)I" } : Jvm.MethodName) prog_1_method_55_code (3 : Nat) (Option.some Jvm.ClassFile.FieldType.int)).before args0 about1 = true := code_word (m := ⟨2, 54⟩) (meth := k2m54) (c := k2c54) (by decide +kernel) rfl rfl rfl (by decide +kernel)
set_option maxRecDepth 65536 in
theorem w_c15 : (Jvm.Cond.code ({ cls := "ShadowRedzoneY", name := "recordError", desc := "(I)V" } : Jvm.MethodName) prog_1_method_53_code (2 : Nat) (Option.none : Option Jvm.ClassFile.FieldType)).before args0 about1 = true := code_word (m := ⟨2, 52⟩) (meth := k2m52) (c := k2c52) (by decide +kernel) rfl rfl rfl (by decide +kernel)
set_option maxRecDepth 65536 in
theorem w_c16 : (Jvm.Cond.code ({ cls := "ShadowRedzoneY", name := "lastBadAddress", desc := "()I" } : Jvm.MethodName) prog_1_method_7_code (1 : Nat) (Option.some Jvm.ClassFile.FieldType.int)).before args0 about1 = true := code_word (m := ⟨2, 6⟩) (meth := k2m6) (c := k2c6) (by decide +kernel) rfl rfl rfl (by decide +kernel)
set_option maxRecDepth 65536 in
theorem w_c17 : (Jvm.Cond.code ({ cls := "ShadowRedzoneY", name := "quarantineCount", desc := "()I" } : Jvm.MethodName) prog_1_method_12_code (1 : Nat) (Option.some Jvm.ClassFile.FieldType.int)).before args0 about1 = true := code_word (m := ⟨2, 11⟩) (meth := k2m11) (c := k2c11) (by decide +kernel) rfl rfl rfl (by decide +kernel)
set_option maxRecDepth 65536 in
theorem w_c18 : (Jvm.Cond.code ({ cls := "ShadowRedzoneY", name := "quarantineBytes", desc := "()I" } : Jvm.MethodName) prog_1_method_13_code (1 : Nat) (Option.some Jvm.ClassFile.FieldType.int)).before args0 about1 = true := code_word (m := ⟨2, 12⟩) (meth := k2m12) (c := k2c12) (by decide +kernel) rfl rfl rfl (by decide +kernel)
set_option maxRecDepth 65536 in
theorem w_c19 : (Jvm.Cond.code ({ cls := "ShadowRedzoneY", name := "liveCount", desc := "()I" } : Jvm.MethodName) prog_1_method_11_code (1 : Nat) (Option.some Jvm.ClassFile.FieldType.int)).before args0 about1 = true := code_word (m := ⟨2, 10⟩) (meth := k2m10) (c := k2c10) (by decide +kernel) rfl rfl rfl (by decide +kernel)
set_option maxRecDepth 65536 in
theorem w_c20 : (Jvm.Cond.code ({ cls := "ShadowRedzoneY", name := "errorCount", desc := "()I" } : Jvm.MethodName) prog_1_method_8_code (1 : Nat) (Option.some Jvm.ClassFile.FieldType.int)).before args0 about1 = true := code_word (m := ⟨2, 7⟩) (meth := k2m7) (c := k2c7) (by decide +kernel) rfl rfl rfl (by decide +kernel)
set_option maxRecDepth 65536 in
theorem w_c21 : (Jvm.Cond.code ({ cls := "ShadowRedzoneY", name := "lastValue", desc := "()J" } : Jvm.MethodName) prog_1_method_6_code (1 : Nat) (Option.some Jvm.ClassFile.FieldType.long)).before args0 about1 = true := code_word (m := ⟨2, 5⟩) (meth := k2m5) (c := k2c5) (by decide +kernel) rfl rfl rfl (by decide +kernel)
set_option maxRecDepth 65536 in
theorem w_c22 : (Jvm.Cond.code ({ cls := "ShadowRedzoneY", name := "largestFreeRun", desc := "()I" } : Jvm.MethodName) prog_1_method_16_code (3 : Nat) (Option.some Jvm.ClassFile.FieldType.int)).before args0 about1 = true := code_word (m := ⟨2, 15⟩) (meth := k2m15) (c := k2c15) (by decide +kernel) rfl rfl rfl (by decide +kernel)
set_option maxRecDepth 65536 in
theorem w_c23 : (Jvm.Cond.code ({ cls := "ShadowRedzoneY", name := "freeRunCount", desc := "()I" } : Jvm.MethodName) prog_1_method_15_code (1 : Nat) (Option.some Jvm.ClassFile.FieldType.int)).before args0 about1 = true := code_word (m := ⟨2, 14⟩) (meth := k2m14) (c := k2c14) (by decide +kernel) rfl rfl rfl (by decide +kernel)
set_option maxRecDepth 65536 in
theorem w_c24 : (Jvm.Cond.code ({ cls := "ShadowRedzoneY", name := "free", desc := "(I)I" } : Jvm.MethodName) prog_1_method_3_code (3 : Nat) (Option.some Jvm.ClassFile.FieldType.int)).before args0 about1 = true := code_word (m := ⟨2, 2⟩) (meth := k2m2) (c := k2c2) (by decide +kernel) rfl rfl rfl (by decide +kernel)
set_option maxRecDepth 65536 in
theorem w_c25 : (Jvm.Cond.code ({ cls := "ShadowRedzoneY", name := "slotForUserAddress", desc := "(I)I" } : Jvm.MethodName) prog_1_method_32_code (4 : Nat) (Option.some Jvm.ClassFile.FieldType.int)).before args0 about1 = true := code_word (m := ⟨2, 31⟩) (meth := k2m31) (c := k2c31) (by decide +kernel) rfl rfl rfl (by decide +kernel)
set_option maxRecDepth 65536 in
theorem w_c26 : (Jvm.Cond.code ({ cls := "ShadowRedzoneY", name := "validSlot", desc := "(I)Z" } : Jvm.MethodName) prog_1_method_22_code (2 : Nat) (Option.some Jvm.ClassFile.FieldType.boolean)).before args0 about1 = true := code_word (m := ⟨2, 21⟩) (meth := k2m21) (c := k2c21) (by decide +kernel) rfl rfl rfl (by decide +kernel)
set_option maxRecDepth 65536 in
theorem w_c27 : (Jvm.Cond.code ({ cls := "ShadowRedzoneY", name := "alloc", desc := "(I)I" } : Jvm.MethodName) prog_1_method_2_code (6 : Nat) (Option.some Jvm.ClassFile.FieldType.int)).before args0 about1 = true := code_word (m := ⟨2, 1⟩) (meth := k2m1) (c := k2c1) (by decide +kernel) rfl rfl rfl (by decide +kernel)
set_option maxRecDepth 65536 in
theorem w_c28 : (Jvm.Cond.code ({ cls := "ShadowRedzoneY", name := "spanFor", desc := "(I)I" } : Jvm.MethodName) prog_1_method_27_code (2 : Nat) (Option.some Jvm.ClassFile.FieldType.int)).before args0 about1 = true := code_word (m := ⟨2, 26⟩) (meth := k2m26) (c := k2c26) (by decide +kernel) rfl rfl rfl (by decide +kernel)
set_option maxRecDepth 65536 in
theorem w_c29 : (Jvm.Cond.code ({ cls := "ShadowRedzoneY", name := "userGranulesFor", desc := "(I)I" } : Jvm.MethodName) prog_1_method_26_code (2 : Nat) (Option.some Jvm.ClassFile.FieldType.int)).before args0 about1 = true := code_word (m := ⟨2, 25⟩) (meth := k2m25) (c := k2c25) (by decide +kernel) rfl rfl rfl (by decide +kernel)
set_option maxRecDepth 65536 in
theorem w_c30 : (Jvm.Cond.code ({ cls := "ShadowRedzoneY", name := "findRoom", desc := "(I)I" } : Jvm.MethodName) prog_1_method_44_code (4 : Nat) (Option.some Jvm.ClassFile.FieldType.int)).before args0 about1 = true := code_word (m := ⟨2, 43⟩) (meth := k2m43) (c := k2c43) (by decide +kernel) rfl rfl rfl (by decide +kernel)
set_option maxRecDepth 65536 in
theorem w_c31 : (Jvm.Cond.code ({ cls := "ShadowRedzoneY", name := "findFitRun", desc := "(I)I" } : Jvm.MethodName) prog_1_method_45_code (3 : Nat) (Option.some Jvm.ClassFile.FieldType.int)).before args0 about1 = true := code_word (m := ⟨2, 44⟩) (meth := k2m44) (c := k2c44) (by decide +kernel) rfl rfl rfl (by decide +kernel)
set_option maxRecDepth 65536 in
theorem w_c32 : (Jvm.Cond.code ({ cls := "ShadowRedzoneY", name := "findUnusedSlot", desc := "()I" } : Jvm.MethodName) prog_1_method_25_code (2 : Nat) (Option.some Jvm.ClassFile.FieldType.int)).before args0 about1 = true := code_word (m := ⟨2, 24⟩) (meth := k2m24) (c := k2c24) (by decide +kernel) rfl rfl rfl (by decide +kernel)
set_option maxRecDepth 65536 in
theorem w_c33 : (Jvm.Cond.code ({ cls := "ShadowRedzoneY", name := "carveFront", desc := "(II)V" } : Jvm.MethodName) prog_1_method_46_code (3 : Nat) (Option.none : Option Jvm.ClassFile.FieldType)).before args0 about1 = true := code_word (m := ⟨2, 45⟩) (meth := k2m45) (c := k2c45) (by decide +kernel) rfl rfl rfl (by decide +kernel)
set_option maxRecDepth 65536 in
theorem w_c34 : (Jvm.Cond.code ({ cls := "ShadowRedzoneY", name := "createChunk", desc := "(III)I" } : Jvm.MethodName) prog_1_method_38_code (5 : Nat) (Option.some Jvm.ClassFile.FieldType.int)).before args0 about1 = true := code_word (m := ⟨2, 37⟩) (meth := k2m37) (c := k2c37) (by decide +kernel) rfl rfl rfl (by decide +kernel)
set_option maxRecDepth 65536 in
theorem w_c35 : (Jvm.Cond.code ({ cls := "ShadowRedzoneY", name := "setOwner", desc := "(III)V" } : Jvm.MethodName) prog_1_method_34_code (6 : Nat) (Option.none : Option Jvm.ClassFile.FieldType)).before args0 about1 = true := code_word (m := ⟨2, 33⟩) (meth := k2m33) (c := k2c33) (by decide +kernel) rfl rfl rfl (by decide +kernel)
set_option maxRecDepth 65536 in
theorem w_c36 : (Jvm.Cond.code ({ cls := "ShadowRedzoneY", name := "paintLiveChunk", desc := "(I)V" } : Jvm.MethodName) prog_1_method_35_code (9 : Nat) (Option.none : Option Jvm.ClassFile.FieldType)).before args0 about1 = true := code_word (m := ⟨2, 34⟩) (meth := k2m34) (c := k2c34) (by decide +kernel) rfl rfl rfl (by decide +kernel)
set_option maxRecDepth 65536 in
theorem w_c37 : (Jvm.Cond.code ({ cls := "ShadowRedzoneY", name := "userGranule", desc := "(I)I" } : Jvm.MethodName) prog_1_method_29_code (2 : Nat) (Option.some Jvm.ClassFile.FieldType.int)).before args0 about1 = true := code_word (m := ⟨2, 28⟩) (meth := k2m28) (c := k2c28) (by decide +kernel) rfl rfl rfl (by decide +kernel)
set_option maxRecDepth 65536 in
theorem w_c38 : (Jvm.Cond.code ({ cls := "ShadowRedzoneY", name := "rightGranule", desc := "(I)I" } : Jvm.MethodName) prog_1_method_31_code (3 : Nat) (Option.some Jvm.ClassFile.FieldType.int)).before args0 about1 = true := code_word (m := ⟨2, 30⟩) (meth := k2m30) (c := k2c30) (by decide +kernel) rfl rfl rfl (by decide +kernel)
set_option maxRecDepth 65536 in
theorem w_c39 : (Jvm.Cond.code ({ cls := "ShadowRedzoneY", name := "paintRange", desc := "(III)V" } : Jvm.MethodName) prog_1_method_33_code (6 : Nat) (Option.none : Option Jvm.ClassFile.FieldType)).before args0 about1 = true := code_word (m := ⟨2, 32⟩) (meth := k2m32) (c := k2c32) (by decide +kernel) rfl rfl rfl (by decide +kernel)
set_option maxRecDepth 65536 in
theorem w_c40 : (Jvm.Cond.code ({ cls := "ShadowRedzoneY", name := "zeroRequested", desc := "(I)V" } : Jvm.MethodName) prog_1_method_37_code (6 : Nat) (Option.none : Option Jvm.ClassFile.FieldType)).before args0 about1 = true := code_word (m := ⟨2, 36⟩) (meth := k2m36) (c := k2c36) (by decide +kernel) rfl rfl rfl (by decide +kernel)
set_option maxRecDepth 65536 in
theorem w_c41 : (Jvm.Cond.code ({ cls := "ShadowRedzoneY", name := "userAddressOf", desc := "(I)I" } : Jvm.MethodName) prog_1_method_30_code (3 : Nat) (Option.some Jvm.ClassFile.FieldType.int)).before args0 about1 = true := code_word (m := ⟨2, 29⟩) (meth := k2m29) (c := k2c29) (by decide +kernel) rfl rfl rfl (by decide +kernel)
set_option maxRecDepth 65536 in
theorem w_c42 : (Jvm.Cond.code ({ cls := "ShadowRedzoneY", name := "userSize", desc := "(I)I" } : Jvm.MethodName) prog_1_method_10_code (3 : Nat) (Option.some Jvm.ClassFile.FieldType.int)).before args0 about1 = true := code_word (m := ⟨2, 9⟩) (meth := k2m9) (c := k2c9) (by decide +kernel) rfl rfl rfl (by decide +kernel)
set_option maxRecDepth 65536 in
theorem w_c43 : (Jvm.Cond.code ({ cls := "ShadowRedzoneY", name := "isLive", desc := "(I)Z" } : Jvm.MethodName) prog_1_method_23_code (2 : Nat) (Option.some Jvm.ClassFile.FieldType.boolean)).before args0 about1 = true := code_word (m := ⟨2, 22⟩) (meth := k2m22) (c := k2c22) (by decide +kernel) rfl rfl rfl (by decide +kernel)
set_option maxRecDepth 65536 in
theorem w_c44 : (Jvm.Cond.code ({ cls := "ShadowRedzoneY", name := "shadow", desc := "(I)I" } : Jvm.MethodName) prog_1_method_9_code (2 : Nat) (Option.some Jvm.ClassFile.FieldType.int)).before args0 about1 = true := code_word (m := ⟨2, 8⟩) (meth := k2m8) (c := k2c8) (by decide +kernel) rfl rfl rfl (by decide +kernel)
set_option maxRecDepth 65536 in
theorem w_c45 : (Jvm.Cond.code ({ cls := "ShadowRedzoneY", name := "isQuarantined", desc := "(I)Z" } : Jvm.MethodName) prog_1_method_24_code (2 : Nat) (Option.some Jvm.ClassFile.FieldType.boolean)).before args0 about1 = true := code_word (m := ⟨2, 23⟩) (meth := k2m23) (c := k2c23) (by decide +kernel) rfl rfl rfl (by decide +kernel)
set_option maxRecDepth 65536 in
theorem w_c46 : (Jvm.Cond.code ({ cls := "ShadowRedzoneY", name := "quarantineChunk", desc := "(I)V" } : Jvm.MethodName) prog_1_method_39_code (2 : Nat) (Option.none : Option Jvm.ClassFile.FieldType)).before args0 about1 = true := code_word (m := ⟨2, 38⟩) (meth := k2m38) (c := k2c38) (by decide +kernel) rfl rfl rfl (by decide +kernel)
set_option maxRecDepth 65536 in
theorem w_c47 : (Jvm.Cond.code ({ cls := "ShadowRedzoneY", name := "paintQuarantined", desc := "(I)V" } : Jvm.MethodName) prog_1_method_36_code (5 : Nat) (Option.none : Option Jvm.ClassFile.FieldType)).before args0 about1 = true := code_word (m := ⟨2, 35⟩) (meth := k2m35) (c := k2c35) (by decide +kernel) rfl rfl rfl (by decide +kernel)
set_option maxRecDepth 65536 in
theorem w_c48 : (Jvm.Cond.code ({ cls := "ShadowRedzoneY", name := "enqueue", desc := "(I)V" } : Jvm.MethodName) prog_1_method_41_code (3 : Nat) (Option.none : Option Jvm.ClassFile.FieldType)).before args0 about1 = true := code_word (m := ⟨2, 40⟩) (meth := k2m40) (c := k2c40) (by decide +kernel) rfl rfl rfl (by decide +kernel)
set_option maxRecDepth 65536 in
theorem w_c49 : (Jvm.Cond.code ({ cls := "ShadowRedzoneY", name := "weightOf", desc := "(I)I" } : Jvm.MethodName) prog_1_method_28_code (3 : Nat) (Option.some Jvm.ClassFile.FieldType.int)).before args0 about1 = true := code_word (m := ⟨2, 27⟩) (meth := k2m27) (c := k2c27) (by decide +kernel) rfl rfl rfl (by decide +kernel)
set_option maxRecDepth 65536 in
theorem w_c50 : (Jvm.Cond.code ({ cls := "ShadowRedzoneY", name := "trimToBudget", desc := "()V" } : Jvm.MethodName) prog_1_method_43_code (2 : Nat) (Option.none : Option Jvm.ClassFile.FieldType)).before args0 about1 = true := code_word (m := ⟨2, 42⟩) (meth := k2m42) (c := k2c42) (by decide +kernel) rfl rfl rfl (by decide +kernel)
set_option maxRecDepth 65536 in
theorem w_c51 : (Jvm.Cond.code ({ cls := "ShadowRedzoneY", name := "quarantineAt", desc := "(I)I" } : Jvm.MethodName) prog_1_method_14_code (3 : Nat) (Option.some Jvm.ClassFile.FieldType.int)).before args0 about1 = true := code_word (m := ⟨2, 13⟩) (meth := k2m13) (c := k2c13) (by decide +kernel) rfl rfl rfl (by decide +kernel)
set_option maxRecDepth 65536 in
theorem w_c52 : (Jvm.Cond.code ({ cls := "ShadowRedzoneY", name := "load", desc := "(II)I" } : Jvm.MethodName) prog_1_method_4_code (4 : Nat) (Option.some Jvm.ClassFile.FieldType.int)).before args0 about1 = true := code_word (m := ⟨2, 3⟩) (meth := k2m3) (c := k2c3) (by decide +kernel) rfl rfl rfl (by decide +kernel)
set_option maxRecDepth 65536 in
theorem w_c53 : (Jvm.Cond.code ({ cls := "ShadowRedzoneY", name := "writeLittleEndian", desc := "(IIJ)V" } : Jvm.MethodName) prog_1_method_57_code (7 : Nat) (Option.none : Option Jvm.ClassFile.FieldType)).before args0 about1 = true := code_word (m := ⟨2, 56⟩) (meth := k2m56) (c := k2c56) (by decide +kernel) rfl rfl rfl (by decide +kernel)
set_option maxRecDepth 65536 in
theorem w_c54 : (Jvm.Cond.code ({ cls := "ShadowRedzoneY", name := "readLittleEndian", desc := "(II)J" } : Jvm.MethodName) prog_1_method_56_code (9 : Nat) (Option.some Jvm.ClassFile.FieldType.long)).before args0 about1 = true := code_word (m := ⟨2, 55⟩) (meth := k2m55) (c := k2c55) (by decide +kernel) rfl rfl rfl (by decide +kernel)
set_option maxRecDepth 65536 in
theorem w_c55 : (Jvm.Cond.code ({ cls := "ShadowRedzoneY", name := "evictOldest", desc := "()V" } : Jvm.MethodName) prog_1_method_42_code (2 : Nat) (Option.none : Option Jvm.ClassFile.FieldType)).before args0 about1 = true := code_word (m := ⟨2, 41⟩) (meth := k2m41) (c := k2c41) (by decide +kernel) rfl rfl rfl (by decide +kernel)
set_option maxRecDepth 65536 in
theorem w_c56 : (Jvm.Cond.code ({ cls := "ShadowRedzoneY", name := "destroyChunk", desc := "(I)V" } : Jvm.MethodName) prog_1_method_40_code (5 : Nat) (Option.none : Option Jvm.ClassFile.FieldType)).before args0 about1 = true := code_word (m := ⟨2, 39⟩) (meth := k2m39) (c := k2c39) (by decide +kernel) rfl rfl rfl (by decide +kernel)
set_option maxRecDepth 65536 in
theorem w_c57 : (Jvm.Cond.code ({ cls := "ShadowRedzoneY", name := "releaseRange", desc := "(II)V" } : Jvm.MethodName) prog_1_method_50_code (6 : Nat) (Option.none : Option Jvm.ClassFile.FieldType)).before args0 about1 = true := code_word (m := ⟨2, 49⟩) (meth := k2m49) (c := k2c49) (by decide +kernel) rfl rfl rfl (by decide +kernel)
set_option maxRecDepth 65536 in
theorem w_c58 : (Jvm.Cond.code ({ cls := "ShadowRedzoneY", name := "runInsertPosition", desc := "(I)I" } : Jvm.MethodName) prog_1_method_49_code (3 : Nat) (Option.some Jvm.ClassFile.FieldType.int)).before args0 about1 = true := code_word (m := ⟨2, 48⟩) (meth := k2m48) (c := k2c48) (by decide +kernel) rfl rfl rfl (by decide +kernel)
set_option maxRecDepth 65536 in
theorem w_c59 : (Jvm.Cond.code ({ cls := "ShadowRedzoneY", name := "insertRun", desc := "(III)V" } : Jvm.MethodName) prog_1_method_48_code (5 : Nat) (Option.none : Option Jvm.ClassFile.FieldType)).before args0 about1 = true := code_word (m := ⟨2, 47⟩) (meth := k2m47) (c := k2c47) (by decide +kernel) rfl rfl rfl (by decide +kernel)
set_option maxRecDepth 65536 in
theorem w_c60 : (Jvm.Cond.code ({ cls := "ShadowRedzoneY", name := "removeRun", desc := "(I)V" } : Jvm.MethodName) prog_1_method_47_code (3 : Nat) (Option.none : Option Jvm.ClassFile.FieldType)).before args0 about1 = true := code_word (m := ⟨2, 46⟩) (meth := k2m46) (c := k2c46) (by decide +kernel) rfl rfl rfl (by decide +kernel)
def codes1 : List Jvm.Cond := [Jvm.Cond.code x code maxLocals ret, Jvm.Cond.code ({ cls := "ShadowRedzoneY", name := "<init>", desc := "(III)V" } : Jvm.MethodName) prog_1_method_1_code (4 : Nat) (Option.none : Option Jvm.ClassFile.FieldType), Jvm.Cond.code ({ cls := "java/lang/Object", name := "<init>", desc := "()V" } : Jvm.MethodName) object_method_1_code (1 : Nat) (Option.none : Option Jvm.ClassFile.FieldType), Jvm.Cond.code ({ cls := "ShadowRedzoneY", name := "clamp", desc := "(III)I" } : Jvm.MethodName) prog_1_method_17_code (4 : Nat) (Option.some Jvm.ClassFile.FieldType.int), Jvm.Cond.code ({ cls := "ShadowRedzoneY", name := "resetArena", desc := "()V" } : Jvm.MethodName) prog_1_method_18_code (2 : Nat) (Option.none : Option Jvm.ClassFile.FieldType), Jvm.Cond.code ({ cls := "ShadowRedzoneY", name := "resetChunks", desc := "()V" } : Jvm.MethodName) prog_1_method_19_code (2 : Nat) (Option.none : Option Jvm.ClassFile.FieldType), Jvm.Cond.code ({ cls := "ShadowRedzoneY", name := "resetQuarantine", desc := "()V" } : Jvm.MethodName) prog_1_method_20_code (2 : Nat) (Option.none : Option Jvm.ClassFile.FieldType), Jvm.Cond.code ({ cls := "ShadowRedzoneY", name := "resetRuns", desc := "()V" } : Jvm.MethodName) prog_1_method_21_code (2 : Nat) (Option.none : Option Jvm.ClassFile.FieldType), Jvm.Cond.code ({ cls := "ShadowRedzoneYL6", name := "sizeOf", desc := "(I)I" } : Jvm.MethodName) method_2_code (2 : Nat) (Option.some Jvm.ClassFile.FieldType.int), Jvm.Cond.code ({ cls := "ShadowRedzoneYL6", name := "addrOf", desc := "(II)I" } : Jvm.MethodName) method_3_code (2 : Nat) (Option.some Jvm.ClassFile.FieldType.int), Jvm.Cond.code ({ cls := "ShadowRedzoneY", name := "store", desc := "(IIJ)I" } : Jvm.MethodName) prog_1_method_5_code (6 : Nat) (Option.some Jvm.ClassFile.FieldType.int), Jvm.Cond.code ({ cls := "ShadowRedzoneY", name := "isAccessSize", desc := "(I)Z" } : Jvm.MethodName) prog_1_method_51_code (2 : Nat) (Option.some Jvm.ClassFile.FieldType.boolean), Jvm.Cond.code ({ cls := "ShadowRedzoneY", name := "checkAccess", desc := "(II)I" } : Jvm.MethodName) prog_1_method_52_code (6 : Nat) (Option.some Jvm.ClassFile.FieldType.int), Jvm.Cond.code ({ cls := "ShadowRedzoneY", name := "byteKind", desc := "(I)I" } : Jvm.MethodName) prog_1_method_54_code (5 : Nat) (Option.some Jvm.ClassFile.FieldType.int), Jvm.Cond.code ({ cls := "ShadowRedzoneY", name := "kindForShadow", desc := "(II)I" } : Jvm.MethodName) prog_1_method_55_code (3 : Nat) (Option.some Jvm.ClassFile.FieldType.int), Jvm.Cond.code ({ cls := "ShadowRedzoneY", name := "recordError", desc := "(I)V" } : Jvm.MethodName) prog_1_method_53_code (2 : Nat) (Option.none : Option Jvm.ClassFile.FieldType), Jvm.Cond.code ({ cls := "ShadowRedzoneY", name := "lastBadAddress", desc := "()I" } : Jvm.MethodName) prog_1_method_7_code (1 : Nat) (Option.some Jvm.ClassFile.FieldType.int), Jvm.Cond.code ({ cls := "ShadowRedzoneY", name := "quarantineCount", desc := "()I" } : Jvm.MethodName) prog_1_method_12_code (1 : Nat) (Option.some Jvm.ClassFile.FieldType.int), Jvm.Cond.code ({ cls := "ShadowRedzoneY", name := "quarantineBytes", desc := "()I" } : Jvm.MethodName) prog_1_method_13_code (1 : Nat) (Option.some Jvm.ClassFile.FieldType.int), Jvm.Cond.code ({ cls := "ShadowRedzoneY", name := "liveCount", desc := "()I" } : Jvm.MethodName) prog_1_method_11_code (1 : Nat) (Option.some Jvm.ClassFile.FieldType.int), Jvm.Cond.code ({ cls := "ShadowRedzoneY", name := "errorCount", desc := "()I" } : Jvm.MethodName) prog_1_method_8_code (1 : Nat) (Option.some Jvm.ClassFile.FieldType.int), Jvm.Cond.code ({ cls := "ShadowRedzoneY", name := "lastValue", desc := "()J" } : Jvm.MethodName) prog_1_method_6_code (1 : Nat) (Option.some Jvm.ClassFile.FieldType.long), Jvm.Cond.code ({ cls := "ShadowRedzoneY", name := "largestFreeRun", desc := "()I" } : Jvm.MethodName) prog_1_method_16_code (3 : Nat) (Option.some Jvm.ClassFile.FieldType.int), Jvm.Cond.code ({ cls := "ShadowRedzoneY", name := "freeRunCount", desc := "()I" } : Jvm.MethodName) prog_1_method_15_code (1 : Nat) (Option.some Jvm.ClassFile.FieldType.int), Jvm.Cond.code ({ cls := "ShadowRedzoneY", name := "free", desc := "(I)I" } : Jvm.MethodName) prog_1_method_3_code (3 : Nat) (Option.some Jvm.ClassFile.FieldType.int), Jvm.Cond.code ({ cls := "ShadowRedzoneY", name := "slotForUserAddress", desc := "(I)I" } : Jvm.MethodName) prog_1_method_32_code (4 : Nat) (Option.some Jvm.ClassFile.FieldType.int), Jvm.Cond.code ({ cls := "ShadowRedzoneY", name := "validSlot", desc := "(I)Z" } : Jvm.MethodName) prog_1_method_22_code (2 : Nat) (Option.some Jvm.ClassFile.FieldType.boolean), Jvm.Cond.code ({ cls := "ShadowRedzoneY", name := "alloc", desc := "(I)I" } : Jvm.MethodName) prog_1_method_2_code (6 : Nat) (Option.some Jvm.ClassFile.FieldType.int), Jvm.Cond.code ({ cls := "ShadowRedzoneY", name := "spanFor", desc := "(I)I" } : Jvm.MethodName) prog_1_method_27_code (2 : Nat) (Option.some Jvm.ClassFile.FieldType.int), Jvm.Cond.code ({ cls := "ShadowRedzoneY", name := "userGranulesFor", desc := "(I)I" } : Jvm.MethodName) prog_1_method_26_code (2 : Nat) (Option.some Jvm.ClassFile.FieldType.int), Jvm.Cond.code ({ cls := "ShadowRedzoneY", name := "findRoom", desc := "(I)I" } : Jvm.MethodName) prog_1_method_44_code (4 : Nat) (Option.some Jvm.ClassFile.FieldType.int), Jvm.Cond.code ({ cls := "ShadowRedzoneY", name := "findFitRun", desc := "(I)I" } : Jvm.MethodName) prog_1_method_45_code (3 : Nat) (Option.some Jvm.ClassFile.FieldType.int), Jvm.Cond.code ({ cls := "ShadowRedzoneY", name := "findUnusedSlot", desc := "()I" } : Jvm.MethodName) prog_1_method_25_code (2 : Nat) (Option.some Jvm.ClassFile.FieldType.int), Jvm.Cond.code ({ cls := "ShadowRedzoneY", name := "carveFront", desc := "(II)V" } : Jvm.MethodName) prog_1_method_46_code (3 : Nat) (Option.none : Option Jvm.ClassFile.FieldType), Jvm.Cond.code ({ cls := "ShadowRedzoneY", name := "createChunk", desc := "(III)I" } : Jvm.MethodName) prog_1_method_38_code (5 : Nat) (Option.some Jvm.ClassFile.FieldType.int), Jvm.Cond.code ({ cls := "ShadowRedzoneY", name := "setOwner", desc := "(III)V" } : Jvm.MethodName) prog_1_method_34_code (6 : Nat) (Option.none : Option Jvm.ClassFile.FieldType), Jvm.Cond.code ({ cls := "ShadowRedzoneY", name := "paintLiveChunk", desc := "(I)V" } : Jvm.MethodName) prog_1_method_35_code (9 : Nat) (Option.none : Option Jvm.ClassFile.FieldType), Jvm.Cond.code ({ cls := "ShadowRedzoneY", name := "userGranule", desc := "(I)I" } : Jvm.MethodName) prog_1_method_29_code (2 : Nat) (Option.some Jvm.ClassFile.FieldType.int), Jvm.Cond.code ({ cls := "ShadowRedzoneY", name := "rightGranule", desc := "(I)I" } : Jvm.MethodName) prog_1_method_31_code (3 : Nat) (Option.some Jvm.ClassFile.FieldType.int), Jvm.Cond.code ({ cls := "ShadowRedzoneY", name := "paintRange", desc := "(III)V" } : Jvm.MethodName) prog_1_method_33_code (6 : Nat) (Option.none : Option Jvm.ClassFile.FieldType), Jvm.Cond.code ({ cls := "ShadowRedzoneY", name := "zeroRequested", desc := "(I)V" } : Jvm.MethodName) prog_1_method_37_code (6 : Nat) (Option.none : Option Jvm.ClassFile.FieldType), Jvm.Cond.code ({ cls := "ShadowRedzoneY", name := "userAddressOf", desc := "(I)I" } : Jvm.MethodName) prog_1_method_30_code (3 : Nat) (Option.some Jvm.ClassFile.FieldType.int), Jvm.Cond.code ({ cls := "ShadowRedzoneY", name := "userSize", desc := "(I)I" } : Jvm.MethodName) prog_1_method_10_code (3 : Nat) (Option.some Jvm.ClassFile.FieldType.int), Jvm.Cond.code ({ cls := "ShadowRedzoneY", name := "isLive", desc := "(I)Z" } : Jvm.MethodName) prog_1_method_23_code (2 : Nat) (Option.some Jvm.ClassFile.FieldType.boolean), Jvm.Cond.code ({ cls := "ShadowRedzoneY", name := "shadow", desc := "(I)I" } : Jvm.MethodName) prog_1_method_9_code (2 : Nat) (Option.some Jvm.ClassFile.FieldType.int), Jvm.Cond.code ({ cls := "ShadowRedzoneY", name := "isQuarantined", desc := "(I)Z" } : Jvm.MethodName) prog_1_method_24_code (2 : Nat) (Option.some Jvm.ClassFile.FieldType.boolean), Jvm.Cond.code ({ cls := "ShadowRedzoneY", name := "quarantineChunk", desc := "(I)V" } : Jvm.MethodName) prog_1_method_39_code (2 : Nat) (Option.none : Option Jvm.ClassFile.FieldType), Jvm.Cond.code ({ cls := "ShadowRedzoneY", name := "paintQuarantined", desc := "(I)V" } : Jvm.MethodName) prog_1_method_36_code (5 : Nat) (Option.none : Option Jvm.ClassFile.FieldType), Jvm.Cond.code ({ cls := "ShadowRedzoneY", name := "enqueue", desc := "(I)V" } : Jvm.MethodName) prog_1_method_41_code (3 : Nat) (Option.none : Option Jvm.ClassFile.FieldType), Jvm.Cond.code ({ cls := "ShadowRedzoneY", name := "weightOf", desc := "(I)I" } : Jvm.MethodName) prog_1_method_28_code (3 : Nat) (Option.some Jvm.ClassFile.FieldType.int), Jvm.Cond.code ({ cls := "ShadowRedzoneY", name := "trimToBudget", desc := "()V" } : Jvm.MethodName) prog_1_method_43_code (2 : Nat) (Option.none : Option Jvm.ClassFile.FieldType), Jvm.Cond.code ({ cls := "ShadowRedzoneY", name := "quarantineAt", desc := "(I)I" } : Jvm.MethodName) prog_1_method_14_code (3 : Nat) (Option.some Jvm.ClassFile.FieldType.int), Jvm.Cond.code ({ cls := "ShadowRedzoneY", name := "load", desc := "(II)I" } : Jvm.MethodName) prog_1_method_4_code (4 : Nat) (Option.some Jvm.ClassFile.FieldType.int), Jvm.Cond.code ({ cls := "ShadowRedzoneY", name := "writeLittleEndian", desc := "(IIJ)V" } : Jvm.MethodName) prog_1_method_57_code (7 : Nat) (Option.none : Option Jvm.ClassFile.FieldType), Jvm.Cond.code ({ cls := "ShadowRedzoneY", name := "readLittleEndian", desc := "(II)J" } : Jvm.MethodName) prog_1_method_56_code (9 : Nat) (Option.some Jvm.ClassFile.FieldType.long), Jvm.Cond.code ({ cls := "ShadowRedzoneY", name := "evictOldest", desc := "()V" } : Jvm.MethodName) prog_1_method_42_code (2 : Nat) (Option.none : Option Jvm.ClassFile.FieldType), Jvm.Cond.code ({ cls := "ShadowRedzoneY", name := "destroyChunk", desc := "(I)V" } : Jvm.MethodName) prog_1_method_40_code (5 : Nat) (Option.none : Option Jvm.ClassFile.FieldType), Jvm.Cond.code ({ cls := "ShadowRedzoneY", name := "releaseRange", desc := "(II)V" } : Jvm.MethodName) prog_1_method_50_code (6 : Nat) (Option.none : Option Jvm.ClassFile.FieldType), Jvm.Cond.code ({ cls := "ShadowRedzoneY", name := "runInsertPosition", desc := "(I)I" } : Jvm.MethodName) prog_1_method_49_code (3 : Nat) (Option.some Jvm.ClassFile.FieldType.int), Jvm.Cond.code ({ cls := "ShadowRedzoneY", name := "insertRun", desc := "(III)V" } : Jvm.MethodName) prog_1_method_48_code (5 : Nat) (Option.none : Option Jvm.ClassFile.FieldType), Jvm.Cond.code ({ cls := "ShadowRedzoneY", name := "removeRun", desc := "(I)V" } : Jvm.MethodName) prog_1_method_47_code (3 : Nat) (Option.none : Option Jvm.ClassFile.FieldType)]
set_option maxRecDepth 65536 in
theorem codes_eq : words1.filter isCode = codes1 := rfl
theorem w_codes : ∀ c ∈ words1.filter isCode, c.before args0 about1 = true := by
  rw [codes_eq]
  intro c hc
  simp only [codes1, List.mem_cons, List.not_mem_nil, or_false] at hc
  rcases hc with rfl | rfl | rfl | rfl | rfl | rfl | rfl | rfl | rfl | rfl | rfl | rfl | rfl | rfl | rfl | rfl | rfl | rfl | rfl | rfl | rfl | rfl | rfl | rfl | rfl | rfl | rfl | rfl | rfl | rfl | rfl | rfl | rfl | rfl | rfl | rfl | rfl | rfl | rfl | rfl | rfl | rfl | rfl | rfl | rfl | rfl | rfl | rfl | rfl | rfl | rfl | rfl | rfl | rfl | rfl | rfl | rfl | rfl | rfl | rfl | rfl
  · exact w_c0
  · exact w_c1
  · exact w_c2
  · exact w_c3
  · exact w_c4
  · exact w_c5
  · exact w_c6
  · exact w_c7
  · exact w_c8
  · exact w_c9
  · exact w_c10
  · exact w_c11
  · exact w_c12
  · exact w_c13
  · exact w_c14
  · exact w_c15
  · exact w_c16
  · exact w_c17
  · exact w_c18
  · exact w_c19
  · exact w_c20
  · exact w_c21
  · exact w_c22
  · exact w_c23
  · exact w_c24
  · exact w_c25
  · exact w_c26
  · exact w_c27
  · exact w_c28
  · exact w_c29
  · exact w_c30
  · exact w_c31
  · exact w_c32
  · exact w_c33
  · exact w_c34
  · exact w_c35
  · exact w_c36
  · exact w_c37
  · exact w_c38
  · exact w_c39
  · exact w_c40
  · exact w_c41
  · exact w_c42
  · exact w_c43
  · exact w_c44
  · exact w_c45
  · exact w_c46
  · exact w_c47
  · exact w_c48
  · exact w_c49
  · exact w_c50
  · exact w_c51
  · exact w_c52
  · exact w_c53
  · exact w_c54
  · exact w_c55
  · exact w_c56
  · exact w_c57
  · exact w_c58
  · exact w_c59
  · exact w_c60
set_option maxRecDepth 65536 in
theorem w_t1 : (words1.take 24).all (fun c => isCode c || c.before args0 about1) = true := by decide +kernel
set_option maxRecDepth 65536 in
theorem w_t2 : ((words1.drop 24).take 24).all (fun c => isCode c || c.before args0 about1) = true := by decide +kernel
set_option maxRecDepth 65536 in
theorem w_t3 : (((words1.drop 24).drop 24).take 24).all (fun c => isCode c || c.before args0 about1) = true := by decide +kernel
set_option maxRecDepth 65536 in
theorem w_t4 : ((((words1.drop 24).drop 24).drop 24).take 24).all (fun c => isCode c || c.before args0 about1) = true := by decide +kernel
set_option maxRecDepth 65536 in
theorem w_t5 : (((((words1.drop 24).drop 24).drop 24).drop 24).take 24).all (fun c => isCode c || c.before args0 about1) = true := by decide +kernel
set_option maxRecDepth 65536 in
theorem w_t6 : ((((((words1.drop 24).drop 24).drop 24).drop 24).drop 24).take 24).all (fun c => isCode c || c.before args0 about1) = true := by decide +kernel
set_option maxRecDepth 65536 in
theorem w_t7 : (((((((words1.drop 24).drop 24).drop 24).drop 24).drop 24).drop 24).take 24).all (fun c => isCode c || c.before args0 about1) = true := by decide +kernel
set_option maxRecDepth 65536 in
theorem w_t8 : ((((((((words1.drop 24).drop 24).drop 24).drop 24).drop 24).drop 24).drop 24).take 24).all (fun c => isCode c || c.before args0 about1) = true := by decide +kernel
set_option maxRecDepth 65536 in
theorem w_t9 : (((((((((words1.drop 24).drop 24).drop 24).drop 24).drop 24).drop 24).drop 24).drop 24).take 24).all (fun c => isCode c || c.before args0 about1) = true := by decide +kernel
set_option maxRecDepth 65536 in
theorem w_t10 : ((((((((((words1.drop 24).drop 24).drop 24).drop 24).drop 24).drop 24).drop 24).drop 24).drop 24).take 24).all (fun c => isCode c || c.before args0 about1) = true := by decide +kernel
set_option maxRecDepth 65536 in
theorem w_t11 : (((((((((((words1.drop 24).drop 24).drop 24).drop 24).drop 24).drop 24).drop 24).drop 24).drop 24).drop 24).take 24).all (fun c => isCode c || c.before args0 about1) = true := by decide +kernel
set_option maxRecDepth 65536 in
theorem w_t12 : ((((((((((((words1.drop 24).drop 24).drop 24).drop 24).drop 24).drop 24).drop 24).drop 24).drop 24).drop 24).drop 24).take 24).all (fun c => isCode c || c.before args0 about1) = true := by decide +kernel
set_option maxRecDepth 65536 in
theorem w_t13 : ((((((((((((words1.drop 24).drop 24).drop 24).drop 24).drop 24).drop 24).drop 24).drop 24).drop 24).drop 24).drop 24).drop 24).all (fun c => isCode c || c.before args0 about1) = true := by decide +kernel
theorem w_tables : (allAtoms (Jvm.Cond.code x code maxLocals ret :: tables_1)).before args0 about1 = true := by
  rw [allAtoms_all]
  show words1.all (fun c => c.before args0 about1) = true
  refine all_split ?_ w_codes
  rw [← List.take_append_drop 24 words1, List.all_append, w_t1, ← List.take_append_drop 24 (words1.drop 24), List.all_append, w_t2, ← List.take_append_drop 24 ((words1.drop 24).drop 24), List.all_append, w_t3, ← List.take_append_drop 24 (((words1.drop 24).drop 24).drop 24), List.all_append, w_t4, ← List.take_append_drop 24 ((((words1.drop 24).drop 24).drop 24).drop 24), List.all_append, w_t5, ← List.take_append_drop 24 (((((words1.drop 24).drop 24).drop 24).drop 24).drop 24), List.all_append, w_t6, ← List.take_append_drop 24 ((((((words1.drop 24).drop 24).drop 24).drop 24).drop 24).drop 24), List.all_append, w_t7, ← List.take_append_drop 24 (((((((words1.drop 24).drop 24).drop 24).drop 24).drop 24).drop 24).drop 24), List.all_append, w_t8, ← List.take_append_drop 24 ((((((((words1.drop 24).drop 24).drop 24).drop 24).drop 24).drop 24).drop 24).drop 24), List.all_append, w_t9, ← List.take_append_drop 24 (((((((((words1.drop 24).drop 24).drop 24).drop 24).drop 24).drop 24).drop 24).drop 24).drop 24), List.all_append, w_t10, ← List.take_append_drop 24 ((((((((((words1.drop 24).drop 24).drop 24).drop 24).drop 24).drop 24).drop 24).drop 24).drop 24).drop 24), List.all_append, w_t11, ← List.take_append_drop 24 (((((((((((words1.drop 24).drop 24).drop 24).drop 24).drop 24).drop 24).drop 24).drop 24).drop 24).drop 24).drop 24), List.all_append, w_t12, w_t13]
  rfl
set_option maxRecDepth 65536 in
theorem w_rest : rest_1_c.before args0 about1 = true := by decide +kernel
set_option maxRecDepth 65536 in
theorem w_case : (Jvm.Cond.and given_1 narrow_1).before args0 about1 = true := by decide +kernel
theorem w_applies : (headSpec (Jvm.Cond.code x code maxLocals ret :: tables_1) room_1).applies x e0.platform about1 = true :=
  (Spec.applies_iff w_frames).mpr ⟨w_running, w_runnable, w_alone, w_named, w_hears, w_ripe, w_room, w_tables⟩
theorem atStart : AtStart classFile x code maxLocals ret World_1 tables_1 room_1 Calls_1 rest_1 Pre_1 launch0 p0 e0 about1 theMethod args0 below0 :=
  ⟨lists_1, trivial, launch0.admits_env _ _ _, launch0.least_env, fairChoices_fair.cas, fairChoices_fair.clock, w_frames, w_args, w_heap, w_applies, trivial, w_rest, w_case⟩
end start1
theorem witness_1 : WitnessClaimed_1 := ⟨start1.p0, start1.e0, start1.about1, start1.theMethod, start1.args0, start1.below0, start1.atStart⟩
end Jvm.Pilot.@@N@@
