import JvmDerived
import JvmDerived.Pilot.@@N@@Statement
import JvmDerived.Pilot.@@N@@Code
set_option linter.unusedVariables false
set_option linter.unusedSimpArgs false
namespace Jvm.AM
open Sem ClassFile Op Lib Jvm.Stand Jvm.Free Jvm.LawKit Jvm.RoadKit
/-! ## 1. The abstract objects: one object of the class, its scalars and its arrays by number -/
abbrev S : Type := (Nat → Int32) × (Nat → Int64) × (Nat → List Int32) × (Nat → List Int64)
def aupd {A : Type} (g : Nat → A) (f : Nat) (v : A) : Nat → A := fun x => if x = f then v else g x
def gI (s : S) (f : Nat) : Int32 := s.1 f
def gL (s : S) (f : Nat) : Int64 := s.2.1 f
def gA (s : S) (f : Nat) : List Int32 := s.2.2.1 f
def gB (s : S) (f : Nat) : List Int64 := s.2.2.2 f
def sI (s : S) (f : Nat) (v : Int32) : S := (aupd s.1 f v, s.2)
def sL (s : S) (f : Nat) (v : Int64) : S := (s.1, aupd s.2.1 f v, s.2.2)
def sA (s : S) (f : Nat) (v : List Int32) : S := (s.1, s.2.1, aupd s.2.2.1 f v, s.2.2.2)
def sB (s : S) (f : Nat) (v : List Int64) : S := (s.1, s.2.1, s.2.2.1, aupd s.2.2.2 f v)
def s0 : S := (fun _ => 0, fun _ => 0, fun _ => [], fun _ => [])
theorem gI_s0 (f : Nat) : gI s0 f = 0 := by simp only [gI, s0]
theorem gL_s0 (f : Nat) : gL s0 f = 0 := by simp only [gL, s0]
theorem gA_s0 (f : Nat) : gA s0 f = [] := by simp only [gA, s0]
theorem gB_s0 (f : Nat) : gB s0 f = [] := by simp only [gB, s0]
theorem gI_sI (s : S) (f g : Nat) (v : Int32) : gI (sI s f v) g = if g = f then v else gI s g := by simp only [gI, gL, gA, gB, sI, sL, sA, sB, aupd]
theorem gI_sL (s : S) (f g : Nat) (v : Int64) : gI (sL s f v) g = gI s g := by simp only [gI, gL, gA, gB, sI, sL, sA, sB, aupd]
theorem gI_sA (s : S) (f g : Nat) (v : List Int32) : gI (sA s f v) g = gI s g := by simp only [gI, gL, gA, gB, sI, sL, sA, sB, aupd]
theorem gI_sB (s : S) (f g : Nat) (v : List Int64) : gI (sB s f v) g = gI s g := by simp only [gI, gL, gA, gB, sI, sL, sA, sB, aupd]
theorem gL_sI (s : S) (f g : Nat) (v : Int32) : gL (sI s f v) g = gL s g := by simp only [gI, gL, gA, gB, sI, sL, sA, sB, aupd]
theorem gL_sL (s : S) (f g : Nat) (v : Int64) : gL (sL s f v) g = if g = f then v else gL s g := by simp only [gI, gL, gA, gB, sI, sL, sA, sB, aupd]
theorem gL_sA (s : S) (f g : Nat) (v : List Int32) : gL (sA s f v) g = gL s g := by simp only [gI, gL, gA, gB, sI, sL, sA, sB, aupd]
theorem gL_sB (s : S) (f g : Nat) (v : List Int64) : gL (sB s f v) g = gL s g := by simp only [gI, gL, gA, gB, sI, sL, sA, sB, aupd]
theorem gA_sI (s : S) (f g : Nat) (v : Int32) : gA (sI s f v) g = gA s g := by simp only [gI, gL, gA, gB, sI, sL, sA, sB, aupd]
theorem gA_sL (s : S) (f g : Nat) (v : Int64) : gA (sL s f v) g = gA s g := by simp only [gI, gL, gA, gB, sI, sL, sA, sB, aupd]
theorem gA_sA (s : S) (f g : Nat) (v : List Int32) : gA (sA s f v) g = if g = f then v else gA s g := by simp only [gI, gL, gA, gB, sI, sL, sA, sB, aupd]
theorem gA_sB (s : S) (f g : Nat) (v : List Int64) : gA (sB s f v) g = gA s g := by simp only [gI, gL, gA, gB, sI, sL, sA, sB, aupd]
theorem gB_sI (s : S) (f g : Nat) (v : Int32) : gB (sI s f v) g = gB s g := by simp only [gI, gL, gA, gB, sI, sL, sA, sB, aupd]
theorem gB_sL (s : S) (f g : Nat) (v : Int64) : gB (sL s f v) g = gB s g := by simp only [gI, gL, gA, gB, sI, sL, sA, sB, aupd]
theorem gB_sA (s : S) (f g : Nat) (v : List Int32) : gB (sA s f v) g = gB s g := by simp only [gI, gL, gA, gB, sI, sL, sA, sB, aupd]
theorem gB_sB (s : S) (f g : Nat) (v : List Int64) : gB (sB s f v) g = if g = f then v else gB s g := by simp only [gI, gL, gA, gB, sI, sL, sA, sB, aupd]
def rep {A : Type} (n : Nat) (x : A) : List A := List.replicate n x
theorem rep_length {A : Type} (n : Nat) (x : A) : (rep n x).length = n := by simp only [rep, List.length_replicate]
theorem rep_get {A : Type} (n : Nat) (x : A) (k : Nat) : (rep n x)[k]? = if k < n then some x else none := by simp only [rep, List.getElem?_replicate]
theorem rep_set {A : Type} (n : Nat) (x : A) (k : Nat) : (rep n x).set k x = rep n x := by simp only [rep, List.set_replicate_self]
/-- reading and writing a component -/
def ix {A : Type} (l : List A) (j : Int32) : Option A := if j < 0 then none else l[j.toNatClampNeg]?
def st {A : Type} (l : List A) (j : Int32) (x : A) : Option (List A) := if j < 0 then none else if j.toNatClampNeg < l.length then some (l.set j.toNatClampNeg x) else none
/-- the world of a run: the script array, if there is one; the objects made so far, each with the number of arrays that it has been given -/
abbrev W : Type := Option (List Int32) × List (Nat × S)
/-- the class: name, slots, scalar fields (name, descriptor, type), array fields in the order of their making (name, descriptor, component type, most slots) -/
abbrev CI : Type := String × Nat × List (String × String × FieldType) × List (String × String × FieldType × Nat)
def cN (c : CI) : String := c.1
def cF (c : CI) : Nat := c.2.1
def cS (c : CI) : List (String × String × FieldType) := c.2.2.1
def cA (c : CI) : List (String × String × FieldType × Nat) := c.2.2.2
def cK (c : CI) : Nat := (cA c).length
/-- the program: the sheet's words, the class -/
abbrev PI : Type := List Jvm.Cond × CI
/-- a method: name, bytes, variables, return type, room, most objects, whether it makes cells, cells and slots at its start -/
abbrev Meth : Type := MethodName × ByteArray × Nat × Option FieldType × Room × Nat × Bool × Nat × Nat
def mY (M : Meth) : MethodName := M.1
def mB (M : Meth) : ByteArray := M.2.1
def mL (M : Meth) : Nat := M.2.2.1
def mT (M : Meth) : Option FieldType := M.2.2.2.1
def mR (M : Meth) : Room := M.2.2.2.2.1
def mN (M : Meth) : Nat := M.2.2.2.2.2.1
def mTop (M : Meth) : Bool := M.2.2.2.2.2.2.1
def mUC (M : Meth) : Nat := M.2.2.2.2.2.2.2.1
def mUS (M : Meth) : Nat := M.2.2.2.2.2.2.2.2
/-! ## 2. Abstract references: 0 the script; j + 1 the cell at b + j -/
def con (α b : Nat) : Value → Value
  | .ref 0 => .ref α
  | .ref (j + 1) => .ref (b + j)
  | v => v
def cs (α b : Nat) : Slot → Slot
  | .val v => .val (con α b v)
  | .unset => .unset
  | .second => .second
def cL (α b : Nat) (L : List Slot) : Array Slot := (L.map (cs α b)).toArray
def cV (α b : Nat) (l : List Value) : List Value := l.map (con α b)
theorem con_cat (α b : Nat) (v : Value) : (con α b v).category = v.category := by
  cases v <;> try rfl
  rename_i a; cases a <;> rfl
theorem con_ref (α b : Nat) (v : Value) : (con α b v).isRef = v.isRef := by
  cases v <;> try rfl
  rename_i a; cases a <;> rfl
theorem cL_get {α b : Nat} {L : List Slot} {k : Nat} {x : Slot} (h : L[k]? = some x) : (cL α b L)[k]? = some (cs α b x) := by
  simp [cL, List.getElem?_toArray, List.getElem?_map, h]
theorem cL_size (α b : Nat) (L : List Slot) : (cL α b L).size = L.length := by simp [cL]
theorem cV_sum (α b : Nat) (l : List Value) : ((cV α b l).map fun v => v.category).sum = (l.map fun v => v.category).sum := by
  simp [cV, List.map_map, Function.comp_def, con_cat]
theorem setAt_map {α b : Nat} {l l' : Array Slot} {i : Nat} {x : Slot} (h : setAt l i x = some l') : setAt (l.map (cs α b)) i (cs α b x) = some (l'.map (cs α b)) := by
  unfold setAt at h ⊢
  split at h
  · rename_i q
    cases h
    rw [if_pos (by simpa using q)]
    simp [Array.map_setIfInBounds]
  · cases h
theorem storeSelf_map {α b : Nat} {l l' : Array Slot} {i : Nat} {v : Value} (h : storeSelf l i v = some l') : storeSelf (l.map (cs α b)) i (con α b v) = some (l'.map (cs α b)) := by
  simp only [storeSelf, Option.bind_eq_bind, Option.bind_eq_some_iff] at h ⊢
  obtain ⟨l1, h1, h2⟩ := h
  refine ⟨l1.map (cs α b), setAt_map (x := .val v) h1, ?_⟩
  rw [con_cat]
  split at h2
  · rename_i q
    rw [if_pos q]
    obtain ⟨x, h3, h4⟩ := Option.bind_eq_some_iff.mp h2
    refine Option.bind_eq_some_iff.mpr ⟨cs α b x, by simp [h3], ?_⟩
    cases x with
    | unset => exact setAt_map (x := .second) h4
    | second => exact setAt_map (x := .second) h4
    | val old =>
      simp only [cs, con_cat] at h4 ⊢
      split at h4
      · rename_i q2
        rw [if_pos q2]
        obtain ⟨y, h5, h6⟩ := Option.bind_eq_some_iff.mp h4
        exact Option.bind_eq_some_iff.mpr ⟨_, setAt_map (x := .unset) h5, setAt_map (x := .second) h6⟩
      · rename_i q2
        rw [if_neg q2]
        exact setAt_map (x := .second) h4
  · rename_i q
    rw [if_neg q]
    cases h2; rfl
theorem store_map {α b : Nat} {l l' : Array Slot} {i : Nat} {v : Value} (h : storeLocals l i v = some l') : storeLocals (l.map (cs α b)) i (con α b v) = some (l'.map (cs α b)) := by
  simp only [storeLocals, Option.bind_eq_bind, Option.bind_eq_some_iff] at h ⊢
  obtain ⟨x, h1, h2⟩ := h
  refine ⟨cs α b x, by simp [h1], ?_⟩
  cases x with
  | unset => exact storeSelf_map h2
  | second =>
    obtain ⟨y, h3, h4⟩ := Option.bind_eq_some_iff.mp h2
    exact Option.bind_eq_some_iff.mpr ⟨_, setAt_map (x := .unset) h3, storeSelf_map h4⟩
  | val old =>
    simp only [cs, con_cat] at h2 ⊢
    split at h2
    · rename_i q
      rw [if_pos q]
      obtain ⟨y, h3, h4⟩ := Option.bind_eq_some_iff.mp h2
      exact Option.bind_eq_some_iff.mpr ⟨_, setAt_map (x := .unset) h3, storeSelf_map h4⟩
    · rename_i q
      rw [if_neg q]
      exact storeSelf_map h2
theorem storeC {α b : Nat} {L L' : List Slot} {i : Nat} {v : Value} (h : storeLocals L.toArray i v = some L'.toArray) : storeLocals (cL α b L) i (con α b v) = some (cL α b L') := by
  have := store_map (α := α) (b := b) h
  simpa [cL] using this
theorem setAt_size {l l' : Array Slot} {i : Nat} {x : Slot} (h : setAt l i x = some l') : l'.size = l.size := by
  unfold setAt at h; split at h <;> cases h; simp
theorem storeSelf_size {l l' : Array Slot} {i : Nat} {v : Value} (h : storeSelf l i v = some l') : l'.size = l.size := by
  simp only [storeSelf, Option.bind_eq_bind, Option.bind_eq_some_iff] at h
  obtain ⟨l1, h1, h2⟩ := h
  have e1 := setAt_size h1
  split at h2
  · obtain ⟨x, h3, h4⟩ := Option.bind_eq_some_iff.mp h2
    cases x with
    | unset => exact (setAt_size h4).trans e1
    | second => exact (setAt_size h4).trans e1
    | val old =>
      dsimp only at h4
      split at h4
      · obtain ⟨y, h5, h6⟩ := Option.bind_eq_some_iff.mp h4
        exact (setAt_size h6).trans ((setAt_size h5).trans e1)
      · exact (setAt_size h4).trans e1
  · cases h2; exact e1
theorem store_size {l l' : Array Slot} {i : Nat} {v : Value} (h : storeLocals l i v = some l') : l'.size = l.size := by
  simp only [storeLocals, Option.bind_eq_bind, Option.bind_eq_some_iff] at h
  obtain ⟨x, h1, h2⟩ := h
  cases x with
  | unset => exact storeSelf_size h2
  | second =>
    obtain ⟨y, h3, h4⟩ := Option.bind_eq_some_iff.mp h2
    exact (storeSelf_size h4).trans (setAt_size h3)
  | val old =>
    dsimp only at h2
    split at h2
    · obtain ⟨y, h3, h4⟩ := Option.bind_eq_some_iff.mp h2
      exact (storeSelf_size h4).trans (setAt_size h3)
    · exact storeSelf_size h2
/-- a variable that may be written over by a value of one word -/
def k1 (o : Slot) : Prop := o = .unset ∨ ∃ w, o = .val w ∧ w.category = 1
def k2 (o o2 : Slot) : Prop := (o = .unset ∧ o2 = .unset) ∨ ∃ u, o = .val (.long u) ∧ o2 = .second
theorem setAt_l {L : List Slot} {k : Nat} {x : Slot} (h : k < L.length) : setAt L.toArray k x = some (L.set k x).toArray := by simp [setAt, h]
theorem get_l {L : List Slot} {k : Nat} {o : Slot} (h : L[k]? = some o) : L.toArray[k]? = some o := by rw [List.getElem?_toArray]; exact h
theorem store_u {L : List Slot} {k : Nat} {v : Value} (h : L[k]? = some .unset) : storeLocals L.toArray k v = storeSelf L.toArray k v := by
  simp only [storeLocals, Option.bind_eq_bind, get_l h, Option.bind_some]
theorem store_1 {L : List Slot} {k : Nat} {v w : Value} (h : L[k]? = some (.val w)) (hw : w.category = 1) : storeLocals L.toArray k v = storeSelf L.toArray k v := by
  simp only [storeLocals, Option.bind_eq_bind, get_l h, Option.bind_some]
  rw [if_neg (by rw [hw]; decide)]
theorem store_k {L : List Slot} {k : Nat} {v : Value} {o : Slot} (h : L[k]? = some o) (ho : k1 o) : storeLocals L.toArray k v = storeSelf L.toArray k v := by
  rcases ho with rfl | ⟨w, rfl, hw⟩
  · exact store_u h
  · exact store_1 h hw
theorem store_2 {L : List Slot} {k : Nat} {v w : Value} (h : L[k]? = some (.val w)) (hw : w.category = 2) (l2 : k + 1 < L.length) : storeLocals L.toArray k v = storeSelf (L.set (k + 1) .unset).toArray k v := by
  simp only [storeLocals, Option.bind_eq_bind, get_l h, Option.bind_some]
  rw [if_pos hw, setAt_l l2, Option.bind_some]
theorem self_1 {L : List Slot} {k : Nat} {v : Value} (hv : v.category = 1) (l : k < L.length) : storeSelf L.toArray k v = some (L.set k (.val v)).toArray := by
  simp only [storeSelf, Option.bind_eq_bind, setAt_l l, Option.bind_some]
  rw [if_neg (by rw [hv]; decide)]
theorem self_2 {L : List Slot} {k : Nat} {v : Value} {o : Slot} (hv : v.category = 2) (h : L[k + 1]? = some o) (ho : k1 o ∨ o = .second) (l : k < L.length) : storeSelf L.toArray k v = some ((L.set k (.val v)).set (k + 1) .second).toArray := by
  have l2 := (List.getElem?_eq_some_iff.mp h).1
  have e2 : (L.set k (.val v))[k + 1]? = some o := by rw [List.getElem?_set_ne (by omega)]; exact h
  simp only [storeSelf, Option.bind_eq_bind, setAt_l l, Option.bind_some]
  rw [if_pos hv, get_l e2, Option.bind_some]
  rcases ho with (rfl | ⟨w, rfl, hw⟩) | rfl
  · exact setAt_l (by rw [List.length_set]; exact l2)
  · dsimp only
    rw [if_neg (by rw [hw]; decide)]
    exact setAt_l (by rw [List.length_set]; exact l2)
  · exact setAt_l (by rw [List.length_set]; exact l2)
theorem self_3 {L : List Slot} {k : Nat} {v w : Value} (hv : v.category = 2) (h : L[k + 1]? = some (.val w)) (hw : w.category = 2) (l3 : k + 2 < L.length) (l : k < L.length) : storeSelf L.toArray k v = some (((L.set k (.val v)).set (k + 2) .unset).set (k + 1) .second).toArray := by
  have l2 := (List.getElem?_eq_some_iff.mp h).1
  have e2 : (L.set k (.val v))[k + 1]? = some (.val w) := by rw [List.getElem?_set_ne (by omega)]; exact h
  simp only [storeSelf, Option.bind_eq_bind, setAt_l l, Option.bind_some]
  rw [if_pos hv, get_l e2, Option.bind_some]
  dsimp only
  rw [if_pos hw, setAt_l (by rw [List.length_set]; exact l3), Option.bind_some, setAt_l (by rw [List.length_set, List.length_set]; exact l2)]
theorem stx {L : List Slot} {k : Nat} {o : Slot} {v : Value} (h : L[k]? = some o) (ho : k1 o) (hv : v.category = 1) : storeLocals L.toArray k v = some (L.set k (.val v)).toArray := by
  rw [store_k h ho, self_1 hv (List.getElem?_eq_some_iff.mp h).1]
theorem stx3 {L : List Slot} {k : Nat} {o o2 : Slot} {u : Int64} (h : L[k]? = some o) (h2 : L[k + 1]? = some o2) (ho : k1 o) (ho2 : k1 o2) : storeLocals L.toArray k (.long u) = some ((L.set k (.val (.long u))).set (k + 1) .second).toArray := by
  rw [store_k h ho, self_2 rfl h2 (Or.inl ho2) (List.getElem?_eq_some_iff.mp h).1]
theorem stx2 {L : List Slot} {k : Nat} {o o2 : Slot} {u : Int64} (h : L[k]? = some o) (h2 : L[k + 1]? = some o2) (ho : k2 o o2) : storeLocals L.toArray k (.long u) = some ((L.set k (.val (.long u))).set (k + 1) .second).toArray := by
  have l1 := (List.getElem?_eq_some_iff.mp h).1
  have l2 := (List.getElem?_eq_some_iff.mp h2).1
  rcases ho with ⟨rfl, rfl⟩ | ⟨u', rfl, rfl⟩
  · exact stx3 h h2 (Or.inl rfl) (Or.inl rfl)
  · rw [store_2 h rfl l2, self_2 (o := .unset) rfl (by rw [List.getElem?_set_self l2]) (Or.inl (Or.inl rfl)) (by rw [List.length_set]; exact l1)]
    rw [List.set_comm _ _ (show k + 1 ≠ k by omega), List.set_set]
theorem stx4 {L : List Slot} {k : Nat} {o2 : Slot} {w : Int64} {v : Value} (h : L[k]? = some (.val (.long w))) (h2 : L[k + 1]? = some o2) (hv : v.category = 1) : storeLocals L.toArray k v = some ((L.set (k + 1) .unset).set k (.val v)).toArray := by
  rw [store_2 h rfl (List.getElem?_eq_some_iff.mp h2).1, self_1 hv (by rw [List.length_set]; exact (List.getElem?_eq_some_iff.mp h).1)]
theorem stx5 {L : List Slot} {k : Nat} {o o3 : Slot} {w u : Int64} (h : L[k]? = some o) (ho : k1 o) (h2 : L[k + 1]? = some (.val (.long w))) (h3 : L[k + 2]? = some o3) : storeLocals L.toArray k (.long u) = some (((L.set k (.val (.long u))).set (k + 2) .unset).set (k + 1) .second).toArray := by
  rw [store_k h ho, self_3 rfl h2 rfl (List.getElem?_eq_some_iff.mp h3).1 (List.getElem?_eq_some_iff.mp h).1]
/-- a tail of dead variables -/
def wtf : Slot ⊕ Int64 → List Slot
  | .inl x => [x]
  | .inr u => [.val (.long u), .second]
def WT (D : List Slot) : Prop := ∃ l : List (Slot ⊕ Int64), D = l.flatMap wtf ∧ ∀ x, Sum.inl x ∈ l → k1 x
theorem wt0 : WT [] := ⟨[], rfl, fun _ h => nomatch h⟩
theorem wt1 {x : Slot} {D : List Slot} (h : k1 x) (W : WT D) : WT (x :: D) := by
  obtain ⟨l, rfl, g⟩ := W
  refine ⟨.inl x :: l, by simp [wtf], fun y hy => ?_⟩
  rcases List.mem_cons.mp hy with e | e
  · cases e; exact h
  · exact g y e
theorem wt2 {u : Int64} {D : List Slot} (W : WT D) : WT (.val (.long u) :: .second :: D) := by
  obtain ⟨l, rfl, g⟩ := W
  refine ⟨.inr u :: l, by simp [wtf], fun y hy => ?_⟩
  rcases List.mem_cons.mp hy with e | e
  · cases e
  · exact g y e
theorem wt12 {x y : Slot} {D : List Slot} (h : k2 x y) (W : WT D) : WT (x :: y :: D) := by
  rcases h with ⟨rfl, rfl⟩ | ⟨u, rfl, rfl⟩
  · exact wt1 (Or.inl rfl) (wt1 (Or.inl rfl) W)
  · exact wt2 W
theorem wt_cases {D : List Slot} (W : WT D) : D = [] ∨ (∃ x E, D = x :: E ∧ k1 x ∧ WT E) ∨ ∃ u E, D = .val (.long u) :: .second :: E ∧ WT E := by
  obtain ⟨l, rfl, g⟩ := W
  match l, g with
  | [], _ => exact Or.inl rfl
  | .inl x :: r, g => exact Or.inr (Or.inl ⟨x, r.flatMap wtf, by simp [wtf], g x (List.mem_cons_self ..), r, rfl, fun y hy => g y (List.mem_cons_of_mem _ hy)⟩)
  | .inr u :: r, g => exact Or.inr (Or.inr ⟨u, r.flatMap wtf, by simp [wtf], r, rfl, fun y hy => g y (List.mem_cons_of_mem _ hy)⟩)
theorem stT {L0 D : List Slot} {v : Value} {n : Nat} (W : WT D) (hl : D.length = n + 1) (hv : v.category = 1) : ∃ D', WT D' ∧ D'.length = n ∧ storeLocals (L0 ++ D).toArray L0.length v = some (L0 ++ ([.val v] : List Slot) ++ D').toArray := by
  rcases wt_cases W with rfl | ⟨x, E, rfl, hx, WE⟩ | ⟨u, E, rfl, WE⟩
  · simp at hl
  · refine ⟨E, WE, by simpa using hl, ?_⟩
    rw [stx (o := x) (by simp) hx hv]; simp
  · refine ⟨.unset :: E, wt1 (Or.inl rfl) WE, by simpa using hl, ?_⟩
    rw [stx4 (w := u) (o2 := .second) (by simp) (by rw [List.getElem?_append_right (by omega)]; simp) hv]
    simp [List.set_append]
theorem stT2 {L0 D : List Slot} {u : Int64} {n : Nat} (W : WT D) (hl : D.length = n + 2) : ∃ D', WT D' ∧ D'.length = n ∧ storeLocals (L0 ++ D).toArray L0.length (.long u) = some (L0 ++ ([.val (.long u), .second] : List Slot) ++ D').toArray := by
  rcases wt_cases W with rfl | ⟨x, E, rfl, hx, WE⟩ | ⟨w, E, rfl, WE⟩
  · simp at hl
  · rcases wt_cases WE with rfl | ⟨y, F, rfl, hy, WF⟩ | ⟨w, F, rfl, WF⟩
    · simp at hl
    · refine ⟨F, WF, by simpa using hl, ?_⟩
      rw [stx3 (o := x) (o2 := y) (by simp) (by rw [List.getElem?_append_right (by omega)]; simp) hx hy]
      simp [List.set_append]
    · refine ⟨.unset :: F, wt1 (Or.inl rfl) WF, by simpa using hl, ?_⟩
      rw [stx5 (o := x) (w := w) (o3 := .second) (by simp) hx (by rw [List.getElem?_append_right (by omega)]; simp) (by rw [List.getElem?_append_right (by omega)]; simp)]
      simp [List.set_append]
  · refine ⟨E, WE, by simpa using hl, ?_⟩
    rw [stx2 (o := .val (.long w)) (o2 := .second) (by simp) (by rw [List.getElem?_append_right (by omega)]; simp) (Or.inr ⟨w, rfl, rfl⟩)]
    simp [List.set_append]
/-- the variables at a method's entry -/
def argL : List Value → List Slot
  | [] => []
  | v :: r => if v.category = 2 then .val v :: .second :: argL r else .val v :: argL r
def entryL (as : List Value) (n : Nat) : List Slot := argL as ++ List.replicate (n - (argL as).length) .unset
theorem argL_fold : ∀ (as : List Value) (acc : List Slot), as.foldl (fun acc v => if v.category = 2 then (acc.push (.val v)).push .second else acc.push (.val v)) acc.toArray = (acc ++ argL as).toArray
  | [], acc => by simp [argL]
  | v :: r, acc => by
    simp only [List.foldl_cons, argL]
    split
    · rename_i q
      rw [show ((acc.toArray.push (Slot.val v)).push Slot.second) = (acc ++ [Slot.val v, Slot.second]).toArray by simp, argL_fold r]
      simp
    · rename_i q
      rw [show (acc.toArray.push (Slot.val v)) = (acc ++ [Slot.val v]).toArray by simp, argL_fold r]
      simp
theorem argL_map (α b : Nat) : ∀ as : List Value, argL (cV α b as) = (argL as).map (cs α b)
  | [] => rfl
  | v :: r => by
    have ih := argL_map α b r
    simp only [cV, List.map_cons, argL, con_cat] at ih ⊢
    split <;> simp [ih, cs]
theorem entry_locals (α b : Nat) (as : List Value) (n : Nat) : argsToLocals (cV α b as).toArray n = cL α b (entryL as n) := by
  have h := argL_fold (cV α b as) []
  simp only [List.nil_append] at h
  have h' : (cV α b as).toArray.foldl (fun acc v => if v.category = 2 then (acc.push (Slot.val v)).push Slot.second else acc.push (Slot.val v)) #[] = (argL (cV α b as)).toArray := by
    rw [← h]; simp
  simp only [argsToLocals]
  rw [h', argL_map]
  simp [cL, entryL, List.map_append, cs]
/-! ## 3. What the heap shows -/
def scV (ty : FieldType) (s : S) (f : Nat) : Value := match ty with
  | .long => .long (gL s f)
  | _ => .int (gI s f)
def arV (ty : FieldType) (s : S) (q : Nat) : List Value := match ty with
  | .long => (gB s q).map .long
  | _ => (gA s q).map .int
def Ar (Z : State) (h : Heap) (a : Nat) (ty : FieldType) (vs : List Value) : Prop := ∃ c : Cell, Arr Z h a c ty ∧ c.slots = vs.toArray
def Rep1 (Z : State) (ci : CI) (h : Heap) (b : Nat) (o : Nat × S) : Prop :=
  Exa Z h b (cN ci) ∧ (∀ f x, (cS ci)[f]? = some x → Fld Z h b (cN ci) x.1 x.2.1 (scV x.2.2 o.2 f)) ∧
  (∀ q x, (cA ci)[q]? = some x → Fld Z h b (cN ci) x.1 x.2.1 (if q < o.1 then .ref (b + 1 + q) else .null)) ∧
  (∀ q x, (cA ci)[q]? = some x → q < o.1 → Ar Z h (b + 1 + q) x.2.2.1 (arV x.2.2.1 o.2 q))
def RepW (Z : State) (ci : CI) (α b : Nat) (w : W) (h : Heap) : Prop :=
  (∀ l, w.1 = some l → Ar Z h α .int (l.map .int) ∧ α < b) ∧ ∀ i o, w.2[i]? = some o → Rep1 Z ci h (b + (cK ci + 1) * i) o
def Frm (lo hi : Nat) (h0 h : Heap) : Prop := ∀ (x : Nat) (c : Cell), h0[x]? = some c → (x < lo ∨ hi ≤ x) → h[x]? = some c
def usedC (w : W) : Nat := (w.2.map fun o => 1 + o.1).sum
def usedS (ci : CI) (w : W) : Nat := (w.2.map fun o => cF ci + (((cA ci).take o.1).map fun x => x.2.2.2).sum).sum
/-- what the sheet says of the class -/
def Facts (Z : State) (a0 : Array Value) (ci : CI) : Prop :=
  (Jvm.Cond.instantiable (cN ci) (cF ci)).before a0 Z = true ∧ (Jvm.Cond.initialized (cN ci)).before a0 Z = true ∧
  (∀ (f : Nat) (x : String × String × FieldType), (cS ci)[f]? = some x → Laid Z a0 (cN ci) (cN ci) x.1 x.2.1 ∧ parseFieldDescriptor x.2.1 = some x.2.2) ∧
  (∀ (q : Nat) (x : String × String × FieldType × Nat), (cA ci)[q]? = some x → Laid Z a0 (cN ci) (cN ci) x.1 x.2.1 ∧ parseFieldDescriptor x.2.1 = some (.array x.2.2.1)) ∧
  ((cS ci).map (fun x => x.1) ++ (cA ci).map (fun x => x.1)).Nodup ∧ (∀ f x, (cS ci)[f]? = some x → defaultValue x.2.2 = scV x.2.2 s0 f) ∧ (cN ci ≠ "java/lang/invoke/MethodHandle" ∧ cN ci ≠ "java/lang/invoke/VarHandle")
theorem nq {a b : Nat} (h : a ≠ b) : @Ne Addr a b := h
theorem Ar.frm {Z : State} {h h' : Heap} {a : Nat} {ty : FieldType} {vs : List Value} (A : Ar Z h a ty vs) (k : ∀ c, h[a]? = some c → h'[a]? = some c) : Ar Z h' a ty vs := by
  obtain ⟨c, ⟨q1, q2⟩, q3⟩ := A; exact ⟨c, ⟨k c q1, q2⟩, q3⟩
theorem fld_frm {Z : State} {h h' : Heap} {a : Nat} {C n d : String} {v : Value} (F : Fld Z h a C n d v) (k : ∀ c, h[a]? = some c → h'[a]? = some c) : Fld Z h' a C n d v := by
  obtain ⟨cell, cf, kc, i, f, h1, r⟩ := F; exact ⟨cell, cf, kc, i, f, k _ h1, r⟩
theorem exa_frm {Z : State} {h h' : Heap} {a : Nat} {C : String} (F : Exa Z h a C) (k : ∀ c, h[a]? = some c → h'[a]? = some c) : Exa Z h' a C := by
  obtain ⟨cell, kc, h1, r⟩ := F; exact ⟨cell, kc, k _ h1, r⟩
theorem get_lt {A : Type} {l : List A} {i : Nat} {x : A} (h : l[i]? = some x) : i < l.length := (List.getElem?_eq_some_iff.mp h).1
theorem Rep1.frm {Z : State} {ci : CI} {h h' : Heap} {b : Nat} {o : Nat × S} (F : Rep1 Z ci h b o) (k : ∀ x c, b ≤ x → x < b + (cK ci + 1) → h[x]? = some c → h'[x]? = some c) : Rep1 Z ci h' b o := by
  obtain ⟨f1, f2, f3, f4⟩ := F
  refine ⟨exa_frm f1 fun c => k b c (Nat.le_refl _) (by omega), fun f x hx => fld_frm (f2 f x hx) fun c => k b c (Nat.le_refl _) (by omega), fun q x hx => fld_frm (f3 q x hx) fun c => k b c (Nat.le_refl _) (by omega), fun q x hx hq => (f4 q x hx hq).frm fun c => k _ c (by omega) ?_⟩
  have := get_lt hx
  simp only [cK]; omega
theorem RepW.ext {Z : State} {ci : CI} {α b : Nat} {w : W} {h h' : Heap} (F : RepW Z ci α b w h) (E : Ext h h') : RepW Z ci α b w h' :=
  ⟨fun l hl => ⟨((F.1 l hl).1).frm fun c q => E.2 _ _ q, (F.1 l hl).2⟩, fun i o ho => (F.2 i o ho).frm fun x c _ _ q => E.2 _ _ q⟩
theorem Frm.refl (lo hi : Nat) (h : Heap) : Frm lo hi h h := fun _ _ q _ => q
theorem Frm.trans {lo hi : Nat} {h0 h1 h2 : Heap} (A : Frm lo hi h0 h1) (B : Frm lo hi h1 h2) : Frm lo hi h0 h2 := fun x c q r => B x c (A x c q r) r
theorem Frm.wide {lo hi lo' hi' : Nat} {h0 h1 : Heap} (A : Frm lo hi h0 h1) (q1 : lo' ≤ lo) (q2 : hi ≤ hi') : Frm lo' hi' h0 h1 := fun x c q r => A x c q (by omega)
theorem Frm.ext {lo hi : Nat} {h0 h1 h2 : Heap} (A : Frm lo hi h0 h1) (E : Ext h1 h2) : Frm lo hi h0 h2 := fun x c q r => E.2 _ _ (A x c q r)
theorem Frm.wr {lo hi : Nat} {h0 h1 h2 : Heap} {a : Nat} {sl : Nat} {v : Value} (A : Frm lo hi h0 h1) (Wt : Wr h1 h2 a sl v) (q1 : lo ≤ a) (q2 : a < hi) : Frm lo hi h0 h2 := fun x c q r => by
  have q3 := A x c q r
  obtain ⟨c', e1, -, -, -, e5, -⟩ := wr_at Wt q3
  have : x ≠ a := by omega
  rw [← e5 this]; exact e1
/-! ## 4. The walk -/
def Ok (P : PI) (M : Meth) (Z : State) (a0 : Array Value) (p : Program) (R : Room) (s : State) (m : MethodId) (meth : Method) (c : Code) (b n0 : Nat) (h0 : Heap) (uC uS : Nat) : Prop :=
  (∀ d ∈ P.1, d.before a0 Z = true) ∧ Facts Z a0 P.2 ∧ p.tables.exec = Jvm.exec ∧ Z.Warmed39 s.vm ∧ s.vm.findClass (mY M).cls = some m.cls ∧ c.code = mB M ∧ c.maxLocals = mL M ∧ meth.sig.returnType = mT M ∧ meth.name = (mY M).name ∧ R = mR M ∧ n0 ≤ b ∧
  (mTop M = true → h0.size = b + uC ∧ uC = mUC M ∧ uS = mUS M) ∧ s.heap.size = h0.size
def Inv (P : PI) (M : Meth) (l : Launch) (Z : State) (p : Program) (e : Env) (R : Room) (s : State) (m : MethodId) (args : Array Value) (below : List Frame) (meth : Method) (c : Code) (α b n0 : Nat) (h0 : Heap) (uC uS : Nat) (w : W) (T : State) (locs : List Loc) (cells slots : Nat) : Prop :=
  Stand p l e R s m args below meth c T locs cells slots ∧ RepW Z P.2 α b w T.heap ∧ Frm b (b + (cK P.2 + 1) * mN M) h0 T.heap ∧ Fr n0 locs ∧ T.heap.size = h0.size + cells ∧ cells + uC = usedC w ∧ slots + uS = usedS P.2 w ∧ cells ≤ R.cells ∧ slots ≤ R.slots ∧ w.2.length ≤ mN M
def Lv (e : Env) (T : State) (m : MethodId) (r : Option Value) (fs : List Frame) : Prop := ∀ (f : JFrame) (acts : List Action), f.method = m → f.locked = none → f.entered = [] → (doReturn e (T.setTop f) acts r).1 = T.setFrames fs
/-- from here the invocation comes to its end, with this value and this world -/
def Go (P : PI) (M : Meth) (pc : Nat) (L : List Slot) (st : List Value) (w : W) (out : Option Value × W) : Prop :=
  L.length = mL M → ∀ (l : Launch) (Z : State) (a0 : Array Value) (p : Program) (e : Env) (R : Room) (s : State) (m : MethodId) (args : Array Value) (below : List Frame) (meth : Method) (c : Code) (α b n0 : Nat) (h0 : Heap) (uC uS : Nat),
    Ok P M Z a0 p R s m meth c b n0 h0 uC uS → ∀ (T : State) (locs : List Loc) (cells slots : Nat), Inv P M l Z p e R s m args below meth c α b n0 h0 uC uS w T locs cells slots →
    ∃ (T' : State) (locs' : List Loc) (cells' slots' : Nat), Inv P M l Z p e R s m args below meth c α b n0 h0 uC uS out.2 T' locs' cells' slots' ∧
      ∀ fs, Lv e T' m (out.1.map (con α b)) fs → Steps p.tables e below (T.setTop (mkF m pc (cL α b L) (cV α b st))) (T'.setFrames fs)
section Rules
variable {P : PI} {M : Meth} {pc pc' : Nat} {L L' : List Slot} {st st' : List Value} {w w' : W} {out : Option Value × W} {x y z v : Int32} {u r : Int64}
theorem go_mv (hL : L.length = mL M → L'.length = mL M)
    (H : ∀ {p : Program} {e : Env} {below : List Frame} {T target : State} {m : MethodId} {c : Code}, At T m c below → p.tables.exec = Jvm.exec → c.code = mB M → ∀ α b : Nat, Steps p.tables e below (T.setTop (mkF m pc' (cL α b L') (cV α b st'))) target → Steps p.tables e below (T.setTop (mkF m pc (cL α b L) (cV α b st))) target)
    (k : Go P M pc' L' st' w out) : Go P M pc L st w out := by
  intro hl l Z a0 p e R s m args below meth c α b n0 h0 uC uS ok T locs cells slots I
  obtain ⟨T', l', c', n', I', fin⟩ := k (hL hl) l Z a0 p e R s m args below meth c α b n0 h0 uC uS ok T locs cells slots I
  exact ⟨T', l', c', n', I', fun fs hv => H I.1.here ok.2.2.1 ok.2.2.2.2.2.1 α b (fin fs hv)⟩
theorem go_ch (H : ∀ (l : Launch) (Z : State) (a0 : Array Value) (p : Program) (e : Env) (R : Room) (s : State) (m : MethodId) (args : Array Value) (below : List Frame) (meth : Method) (c : Code) (α b n0 : Nat) (h0 : Heap) (uC uS : Nat),
      Ok P M Z a0 p R s m meth c b n0 h0 uC uS → L.length = mL M → ∀ (T : State) (locs : List Loc) (cells slots : Nat), Inv P M l Z p e R s m args below meth c α b n0 h0 uC uS w T locs cells slots →
      ∃ (T' : State) (locs' : List Loc) (cells' slots' : Nat), Inv P M l Z p e R s m args below meth c α b n0 h0 uC uS w' T' locs' cells' slots' ∧
        ∀ target, Steps p.tables e below (T'.setTop (mkF m pc' (cL α b L) (cV α b st'))) target → Steps p.tables e below (T.setTop (mkF m pc (cL α b L) (cV α b st))) target)
    (k : Go P M pc' L st' w' out) : Go P M pc L st w out := by
  intro hl l Z a0 p e R s m args below meth c α b n0 h0 uC uS ok T locs cells slots I
  obtain ⟨T1, l1, c1, n1, I1, h1⟩ := H l Z a0 p e R s m args below meth c α b n0 h0 uC uS ok hl T locs cells slots I
  obtain ⟨T', l', c', n', I', fin⟩ := k hl l Z a0 p e R s m args below meth c α b n0 h0 uC uS ok T1 l1 c1 n1 I1
  exact ⟨T', l', c', n', I', fun fs hv => h1 _ (fin fs hv)⟩
/-! ### loads, stores, constants -/
theorem go_iloadN {k : Fin 4} (d : decode (mB M) pc = .ok (.iload_n k, 1)) (hl : L[k.val]? = some (.val (.int v))) (g : Go P M (pc + 1) L (.int v :: st) w out) : Go P M pc L (st) w out :=
  go_mv id (fun h hx hc α b r => XS.iloadN (g := mkF _ pc (cL α b L) (cV α b (st))) h hx rfl (hb hc d) (cL_get hl) r) g
theorem go_iload {k : Nat} (d : decode (mB M) pc = .ok (.iload k, 2)) (hl : L[k]? = some (.val (.int v))) (g : Go P M (pc + 2) L (.int v :: st) w out) : Go P M pc L (st) w out :=
  go_mv id (fun h hx hc α b r => XS.iload (g := mkF _ pc (cL α b L) (cV α b (st))) h hx rfl (hb hc d) (cL_get hl) r) g
theorem go_lloadN {k : Fin 4} (d : decode (mB M) pc = .ok (.lload_n k, 1)) (hl : L[k.val]? = some (.val (.long u))) (g : Go P M (pc + 1) L (.long u :: st) w out) : Go P M pc L (st) w out :=
  go_mv id (fun h hx hc α b r => XT.lloadN (g := mkF _ pc (cL α b L) (cV α b (st))) h hx rfl (hb hc d) (cL_get hl) r) g
theorem go_lload {k : Nat} (d : decode (mB M) pc = .ok (.lload k, 2)) (hl : L[k]? = some (.val (.long u))) (g : Go P M (pc + 2) L (.long u :: st) w out) : Go P M pc L (st) w out :=
  go_mv id (fun h hx hc α b r => XT.lload (g := mkF _ pc (cL α b L) (cV α b (st))) h hx rfl (hb hc d) (cL_get hl) r) g
theorem go_aloadN {k : Fin 4} {a : Nat} (d : decode (mB M) pc = .ok (.aload_n k, 1)) (hl : L[k.val]? = some (.val (.ref a))) (g : Go P M (pc + 1) L (.ref a :: st) w out) : Go P M pc L (st) w out :=
  go_mv id (fun h hx hc α b r => XS.aloadN (g := mkF _ pc (cL α b L) (cV α b (st))) h hx rfl (hb hc d) (cL_get hl) (con_ref α b (.ref a)) r) g
theorem go_aload {k : Nat} {a : Nat} (d : decode (mB M) pc = .ok (.aload k, 2)) (hl : L[k]? = some (.val (.ref a))) (g : Go P M (pc + 2) L (.ref a :: st) w out) : Go P M pc L (st) w out :=
  go_mv id (fun h hx hc α b r => XS.aload (g := mkF _ pc (cL α b L) (cV α b (st))) h hx rfl (hb hc d) (cL_get hl) (con_ref α b (.ref a)) r) g
theorem go_istoreN {k : Fin 4} (d : decode (mB M) pc = .ok (.istore_n k, 1)) (hl : storeLocals L.toArray k.val (.int x) = some L'.toArray) (g : Go P M (pc + 1) L' (st) w out) : Go P M pc L (.int x :: st) w out :=
  go_mv (fun q => by have := store_size hl; simp at this; omega) (fun h hx hc α b r => XS.istoreN (g := mkF _ pc (cL α b L) (cV α b (.int x :: st))) h hx rfl (hb hc d) rfl (storeC hl) r) g
theorem go_istore {k : Nat} (d : decode (mB M) pc = .ok (.istore k, 2)) (hl : storeLocals L.toArray k (.int x) = some L'.toArray) (g : Go P M (pc + 2) L' (st) w out) : Go P M pc L (.int x :: st) w out :=
  go_mv (fun q => by have := store_size hl; simp at this; omega) (fun h hx hc α b r => XS.istore (g := mkF _ pc (cL α b L) (cV α b (.int x :: st))) h hx rfl (hb hc d) rfl (storeC hl) r) g
theorem go_lstoreN {k : Fin 4} (d : decode (mB M) pc = .ok (.lstore_n k, 1)) (hl : storeLocals L.toArray k.val (.long u) = some L'.toArray) (g : Go P M (pc + 1) L' (st) w out) : Go P M pc L (.long u :: st) w out :=
  go_mv (fun q => by have := store_size hl; simp at this; omega) (fun h hx hc α b r => XT.lstoreN (g := mkF _ pc (cL α b L) (cV α b (.long u :: st))) h hx rfl (hb hc d) rfl (storeC hl) r) g
theorem go_lstore {k : Nat} (d : decode (mB M) pc = .ok (.lstore k, 2)) (hl : storeLocals L.toArray k (.long u) = some L'.toArray) (g : Go P M (pc + 2) L' (st) w out) : Go P M pc L (.long u :: st) w out :=
  go_mv (fun q => by have := store_size hl; simp at this; omega) (fun h hx hc α b r => XT.lstore (g := mkF _ pc (cL α b L) (cV α b (.long u :: st))) h hx rfl (hb hc d) rfl (storeC hl) r) g
theorem go_astoreN {k : Fin 4} {a : Nat} (d : decode (mB M) pc = .ok (.astore_n k, 1)) (hl : storeLocals L.toArray k.val (.ref a) = some L'.toArray) (g : Go P M (pc + 1) L' (st) w out) : Go P M pc L (.ref a :: st) w out :=
  go_mv (fun q => by have := store_size hl; simp at this; omega) (fun h hx hc α b r => XS.astoreN (g := mkF _ pc (cL α b L) (cV α b (.ref a :: st))) h hx rfl (hb hc d) rfl (con_ref α b (.ref a)) (storeC hl) r) g
theorem go_astore {k : Nat} {a : Nat} (d : decode (mB M) pc = .ok (.astore k, 2)) (hl : storeLocals L.toArray k (.ref a) = some L'.toArray) (g : Go P M (pc + 2) L' (st) w out) : Go P M pc L (.ref a :: st) w out :=
  go_mv (fun q => by have := store_size hl; simp at this; omega) (fun h hx hc α b r => XS.astore (g := mkF _ pc (cL α b L) (cV α b (.ref a :: st))) h hx rfl (hb hc d) rfl (con_ref α b (.ref a)) (storeC hl) r) g
theorem go_istoreNT {k : Fin 4} {L0 L1 D : List Slot} {n : Nat} (d : decode (mB M) pc = .ok (.istore_n k, 1)) (hk : k.val = L0.length) (h1 : L1 = L0 ++ [.val (.int x)]) (W : WT D) (hl : D.length = n + 1) (g : ∀ D', WT D' → D'.length = n → Go P M (pc + 1) (L1 ++ D') st w out) : Go P M pc (L0 ++ D) (.int x :: st) w out := by
  obtain ⟨D', W', l', e⟩ := stT (L0 := L0) (v := .int x) W hl rfl
  subst h1
  exact go_istoreN d (by rw [hk]; exact e) (g D' W' l')
theorem nilT {Q : List Slot → Prop} (g : Q []) : ∀ D', WT D' → D'.length = 0 → Q D' := fun D' _ l => by
  cases D' with
  | nil => exact g
  | cons => cases l
theorem go_istoreT {k : Nat} {L0 L1 D : List Slot} {n : Nat} (d : decode (mB M) pc = .ok (.istore k, 2)) (hk : k = L0.length) (h1 : L1 = L0 ++ [.val (.int x)]) (W : WT D) (hl : D.length = n + 1) (g : ∀ D', WT D' → D'.length = n → Go P M (pc + 2) (L1 ++ D') st w out) : Go P M pc (L0 ++ D) (.int x :: st) w out := by
  obtain ⟨D', W', l', e⟩ := stT (L0 := L0) (v := .int x) W hl rfl
  subst h1
  exact go_istore d (by rw [hk]; exact e) (g D' W' l')
theorem go_astoreNT {k : Fin 4} {L0 L1 D : List Slot} {n : Nat} {a : Nat} (d : decode (mB M) pc = .ok (.astore_n k, 1)) (hk : k.val = L0.length) (h1 : L1 = L0 ++ [.val (.ref a)]) (W : WT D) (hl : D.length = n + 1) (g : ∀ D', WT D' → D'.length = n → Go P M (pc + 1) (L1 ++ D') st w out) : Go P M pc (L0 ++ D) (.ref a :: st) w out := by
  obtain ⟨D', W', l', e⟩ := stT (L0 := L0) (v := .ref a) W hl rfl
  subst h1
  exact go_astoreN d (by rw [hk]; exact e) (g D' W' l')
theorem go_astoreT {k : Nat} {L0 L1 D : List Slot} {n : Nat} {a : Nat} (d : decode (mB M) pc = .ok (.astore k, 2)) (hk : k = L0.length) (h1 : L1 = L0 ++ [.val (.ref a)]) (W : WT D) (hl : D.length = n + 1) (g : ∀ D', WT D' → D'.length = n → Go P M (pc + 2) (L1 ++ D') st w out) : Go P M pc (L0 ++ D) (.ref a :: st) w out := by
  obtain ⟨D', W', l', e⟩ := stT (L0 := L0) (v := .ref a) W hl rfl
  subst h1
  exact go_astore d (by rw [hk]; exact e) (g D' W' l')
theorem go_lstoreNT {k : Fin 4} {L0 L1 D : List Slot} {n : Nat} (d : decode (mB M) pc = .ok (.lstore_n k, 1)) (hk : k.val = L0.length) (h1 : L1 = L0 ++ [.val (.long u), .second]) (W : WT D) (hl : D.length = n + 2) (g : ∀ D', WT D' → D'.length = n → Go P M (pc + 1) (L1 ++ D') st w out) : Go P M pc (L0 ++ D) (.long u :: st) w out := by
  obtain ⟨D', W', l', e⟩ := stT2 (L0 := L0) (u := u) W hl
  subst h1
  exact go_lstoreN d (by rw [hk]; exact e) (g D' W' l')
theorem go_lstoreT {k : Nat} {L0 L1 D : List Slot} {n : Nat} (d : decode (mB M) pc = .ok (.lstore k, 2)) (hk : k = L0.length) (h1 : L1 = L0 ++ [.val (.long u), .second]) (W : WT D) (hl : D.length = n + 2) (g : ∀ D', WT D' → D'.length = n → Go P M (pc + 2) (L1 ++ D') st w out) : Go P M pc (L0 ++ D) (.long u :: st) w out := by
  obtain ⟨D', W', l', e⟩ := stT2 (L0 := L0) (u := u) W hl
  subst h1
  exact go_lstore d (by rw [hk]; exact e) (g D' W' l')
theorem go_iconst {i : Int} (d : decode (mB M) pc = .ok (.iconst i, 1)) (hv : v = Int32.ofInt i) (g : Go P M (pc + 1) L (.int v :: st) w out) : Go P M pc L (st) w out :=
  go_mv id (fun h hx hc α b r => XS.iconst (g := mkF _ pc (cL α b L) (cV α b (st))) h hx rfl (hb hc d) (hv ▸ r)) g
theorem go_bipush {i : Int} (d : decode (mB M) pc = .ok (.bipush i, 2)) (hv : v = (Int8.ofInt i).toInt32) (g : Go P M (pc + 2) L (.int v :: st) w out) : Go P M pc L (st) w out :=
  go_mv id (fun h hx hc α b r => XS.bipush (g := mkF _ pc (cL α b L) (cV α b (st))) h hx rfl (hb hc d) (hv ▸ r)) g
theorem go_sipush {i : Int} (d : decode (mB M) pc = .ok (.sipush i, 3)) (hv : v = (Int16.ofInt i).toInt32) (g : Go P M (pc + 3) L (.int v :: st) w out) : Go P M pc L (st) w out :=
  go_mv id (fun h hx hc α b r => XS.sipush (g := mkF _ pc (cL α b L) (cV α b (st))) h hx rfl (hb hc d) (hv ▸ r)) g
theorem go_lconst {i : Fin 2} (d : decode (mB M) pc = .ok (.lconst i, 1)) (hv : u = Int64.ofNat i) (g : Go P M (pc + 1) L (.long u :: st) w out) : Go P M pc L (st) w out :=
  go_mv id (fun h hx hc α b r => XT.lconst (g := mkF _ pc (cL α b L) (cV α b (st))) h hx rfl (hb hc d) (hv ▸ r)) g
theorem go_dup  (d : decode (mB M) pc = .ok (.dup, 1))  (g : Go P M (pc + 1) L (.int x :: .int x :: st) w out) : Go P M pc L (.int x :: st) w out :=
  go_mv id (fun h hx hc α b r => XS.dup (g := mkF _ pc (cL α b L) (cV α b (.int x :: st))) h hx rfl (hb hc d) rfl rfl r) g
theorem go_dupR {a : Nat} (d : decode (mB M) pc = .ok (.dup, 1))  (g : Go P M (pc + 1) L (.ref a :: .ref a :: st) w out) : Go P M pc L (.ref a :: st) w out :=
  go_mv id (fun h hx hc α b r => XS.dup (g := mkF _ pc (cL α b L) (cV α b (.ref a :: st))) h hx rfl (hb hc d) rfl (con_cat α b (.ref a)) r) g
theorem go_dup2 {a : Nat} (d : decode (mB M) pc = .ok (.dup2, 1))  (g : Go P M (pc + 1) L (.int x :: .ref a :: .int x :: .ref a :: st) w out) : Go P M pc L (.int x :: .ref a :: st) w out :=
  go_mv id (fun h hx hc α b r => XT.dup2 (g := mkF _ pc (cL α b L) (cV α b (.int x :: .ref a :: st))) h hx rfl (hb hc d) rfl rfl (con_cat α b (.ref a)) r) g
theorem go_dup2I  (d : decode (mB M) pc = .ok (.dup2, 1))  (g : Go P M (pc + 1) L (.int x :: .int y :: .int x :: .int y :: st) w out) : Go P M pc L (.int x :: .int y :: st) w out :=
  go_mv id (fun h hx hc α b r => XT.dup2 (g := mkF _ pc (cL α b L) (cV α b (.int x :: .int y :: st))) h hx rfl (hb hc d) rfl rfl rfl r) g
theorem go_dup2L  (d : decode (mB M) pc = .ok (.dup2, 1))  (g : Go P M (pc + 1) L (.long u :: .long u :: st) w out) : Go P M pc L (.long u :: st) w out :=
  go_mv id (fun h hx hc α b r => XT.dup2L (g := mkF _ pc (cL α b L) (cV α b (.long u :: st))) h hx rfl (hb hc d) rfl r) g
theorem go_pop  (d : decode (mB M) pc = .ok (.pop, 1))  (g : Go P M (pc + 1) L (st) w out) : Go P M pc L (.int x :: st) w out :=
  go_mv id (fun h hx hc α b r => XT.pop (g := mkF _ pc (cL α b L) (cV α b (.int x :: st))) h hx rfl (hb hc d) rfl rfl r) g
theorem go_iadd  (d : decode (mB M) pc = .ok (.iadd, 1))  (g : Go P M (pc + 1) L (.int (x + y) :: st) w out) : Go P M pc L (.int y :: .int x :: st) w out :=
  go_mv id (fun h hx hc α b r => XS.iadd (g := mkF _ pc (cL α b L) (cV α b (.int y :: .int x :: st))) h hx rfl (hb hc d) rfl r) g
theorem go_isub  (d : decode (mB M) pc = .ok (.isub, 1))  (g : Go P M (pc + 1) L (.int (x - y) :: st) w out) : Go P M pc L (.int y :: .int x :: st) w out :=
  go_mv id (fun h hx hc α b r => XS.isub (g := mkF _ pc (cL α b L) (cV α b (.int y :: .int x :: st))) h hx rfl (hb hc d) rfl r) g
theorem go_imul  (d : decode (mB M) pc = .ok (.imul, 1))  (g : Go P M (pc + 1) L (.int (x * y) :: st) w out) : Go P M pc L (.int y :: .int x :: st) w out :=
  go_mv id (fun h hx hc α b r => XS.imul (g := mkF _ pc (cL α b L) (cV α b (.int y :: .int x :: st))) h hx rfl (hb hc d) rfl r) g
theorem go_iand  (d : decode (mB M) pc = .ok (.iand, 1))  (g : Go P M (pc + 1) L (.int (x &&& y) :: st) w out) : Go P M pc L (.int y :: .int x :: st) w out :=
  go_mv id (fun h hx hc α b r => XS.iand (g := mkF _ pc (cL α b L) (cV α b (.int y :: .int x :: st))) h hx rfl (hb hc d) rfl r) g
theorem go_ior  (d : decode (mB M) pc = .ok (.ior, 1))  (g : Go P M (pc + 1) L (.int (x ||| y) :: st) w out) : Go P M pc L (.int y :: .int x :: st) w out :=
  go_mv id (fun h hx hc α b r => XT.ior (g := mkF _ pc (cL α b L) (cV α b (.int y :: .int x :: st))) h hx rfl (hb hc d) rfl r) g
theorem go_ixor  (d : decode (mB M) pc = .ok (.ixor, 1))  (g : Go P M (pc + 1) L (.int (x ^^^ y) :: st) w out) : Go P M pc L (.int y :: .int x :: st) w out :=
  go_mv id (fun h hx hc α b r => XT.ixor (g := mkF _ pc (cL α b L) (cV α b (.int y :: .int x :: st))) h hx rfl (hb hc d) rfl r) g
theorem go_ishl  (d : decode (mB M) pc = .ok (.ishl, 1))  (g : Go P M (pc + 1) L (.int (x <<< (y &&& 31)) :: st) w out) : Go P M pc L (.int y :: .int x :: st) w out :=
  go_mv id (fun h hx hc α b r => XT.ishl (g := mkF _ pc (cL α b L) (cV α b (.int y :: .int x :: st))) h hx rfl (hb hc d) rfl r) g
theorem go_ishr  (d : decode (mB M) pc = .ok (.ishr, 1))  (g : Go P M (pc + 1) L (.int (x >>> (y &&& 31)) :: st) w out) : Go P M pc L (.int y :: .int x :: st) w out :=
  go_mv id (fun h hx hc α b r => XT.ishr (g := mkF _ pc (cL α b L) (cV α b (.int y :: .int x :: st))) h hx rfl (hb hc d) rfl r) g
theorem go_iushr  (d : decode (mB M) pc = .ok (.iushr, 1))  (g : Go P M (pc + 1) L (.int (XT.ushr x y) :: st) w out) : Go P M pc L (.int y :: .int x :: st) w out :=
  go_mv id (fun h hx hc α b r => XT.iushr (g := mkF _ pc (cL α b L) (cV α b (.int y :: .int x :: st))) h hx rfl (hb hc d) rfl r) g
theorem go_idiv  (d : decode (mB M) pc = .ok (.idiv, 1)) (hy : y ≠ 0) (g : Go P M (pc + 1) L (.int (x / y) :: st) w out) : Go P M pc L (.int y :: .int x :: st) w out :=
  go_mv id (fun h hx hc α b r => XS.idiv (g := mkF _ pc (cL α b L) (cV α b (.int y :: .int x :: st))) h hx rfl (hb hc d) rfl hy r) g
theorem go_irem  (d : decode (mB M) pc = .ok (.irem, 1)) (hy : y ≠ 0) (g : Go P M (pc + 1) L (.int (x % y) :: st) w out) : Go P M pc L (.int y :: .int x :: st) w out :=
  go_mv id (fun h hx hc α b r => XS.irem (g := mkF _ pc (cL α b L) (cV α b (.int y :: .int x :: st))) h hx rfl (hb hc d) rfl hy (by rw [irem_eq_mod x y]; exact r)) g
theorem go_ineg  (d : decode (mB M) pc = .ok (.ineg, 1))  (g : Go P M (pc + 1) L (.int (-x) :: st) w out) : Go P M pc L (.int x :: st) w out :=
  go_mv id (fun h hx hc α b r => XS.ineg (g := mkF _ pc (cL α b L) (cV α b (.int x :: st))) h hx rfl (hb hc d) rfl r) g
theorem go_ladd  (d : decode (mB M) pc = .ok (.ladd, 1))  (g : Go P M (pc + 1) L (.long (u + r) :: st) w out) : Go P M pc L (.long r :: .long u :: st) w out :=
  go_mv id (fun h hx hc α b k => XT.ladd (g := mkF _ pc (cL α b L) (cV α b (.long r :: .long u :: st))) h hx rfl (hb hc d) rfl k) g
theorem go_lsub  (d : decode (mB M) pc = .ok (.lsub, 1))  (g : Go P M (pc + 1) L (.long (u - r) :: st) w out) : Go P M pc L (.long r :: .long u :: st) w out :=
  go_mv id (fun h hx hc α b k => XT.lsub (g := mkF _ pc (cL α b L) (cV α b (.long r :: .long u :: st))) h hx rfl (hb hc d) rfl k) g
theorem go_lmul  (d : decode (mB M) pc = .ok (.lmul, 1))  (g : Go P M (pc + 1) L (.long (u * r) :: st) w out) : Go P M pc L (.long r :: .long u :: st) w out :=
  go_mv id (fun h hx hc α b k => XT.lmul (g := mkF _ pc (cL α b L) (cV α b (.long r :: .long u :: st))) h hx rfl (hb hc d) rfl k) g
theorem go_land  (d : decode (mB M) pc = .ok (.land, 1))  (g : Go P M (pc + 1) L (.long (u &&& r) :: st) w out) : Go P M pc L (.long r :: .long u :: st) w out :=
  go_mv id (fun h hx hc α b k => XT.land (g := mkF _ pc (cL α b L) (cV α b (.long r :: .long u :: st))) h hx rfl (hb hc d) rfl k) g
theorem go_lor  (d : decode (mB M) pc = .ok (.lor, 1))  (g : Go P M (pc + 1) L (.long (u ||| r) :: st) w out) : Go P M pc L (.long r :: .long u :: st) w out :=
  go_mv id (fun h hx hc α b k => XT.lor (g := mkF _ pc (cL α b L) (cV α b (.long r :: .long u :: st))) h hx rfl (hb hc d) rfl k) g
theorem go_lxor  (d : decode (mB M) pc = .ok (.lxor, 1))  (g : Go P M (pc + 1) L (.long (u ^^^ r) :: st) w out) : Go P M pc L (.long r :: .long u :: st) w out :=
  go_mv id (fun h hx hc α b k => XT.lxor (g := mkF _ pc (cL α b L) (cV α b (.long r :: .long u :: st))) h hx rfl (hb hc d) rfl k) g
theorem go_lshl  (d : decode (mB M) pc = .ok (.lshl, 1))  (g : Go P M (pc + 1) L (.long (u <<< (y.toInt64 &&& 63)) :: st) w out) : Go P M pc L (.int y :: .long u :: st) w out :=
  go_mv id (fun h hx hc α b r => XT.lshl (g := mkF _ pc (cL α b L) (cV α b (.int y :: .long u :: st))) h hx rfl (hb hc d) rfl r) g
theorem go_lshr  (d : decode (mB M) pc = .ok (.lshr, 1))  (g : Go P M (pc + 1) L (.long (u >>> (y.toInt64 &&& 63)) :: st) w out) : Go P M pc L (.int y :: .long u :: st) w out :=
  go_mv id (fun h hx hc α b r => XT.lshr (g := mkF _ pc (cL α b L) (cV α b (.int y :: .long u :: st))) h hx rfl (hb hc d) rfl r) g
theorem go_lushr  (d : decode (mB M) pc = .ok (.lushr, 1))  (g : Go P M (pc + 1) L (.long (XT.ushrL u y) :: st) w out) : Go P M pc L (.int y :: .long u :: st) w out :=
  go_mv id (fun h hx hc α b r => XT.lushr (g := mkF _ pc (cL α b L) (cV α b (.int y :: .long u :: st))) h hx rfl (hb hc d) rfl r) g
theorem go_lcmp  (d : decode (mB M) pc = .ok (.lcmp, 1))  (g : Go P M (pc + 1) L (.int (XT.cmpL u r) :: st) w out) : Go P M pc L (.long r :: .long u :: st) w out :=
  go_mv id (fun h hx hc α b k => XT.lcmp (g := mkF _ pc (cL α b L) (cV α b (.long r :: .long u :: st))) h hx rfl (hb hc d) rfl k) g
theorem go_i2l  (d : decode (mB M) pc = .ok (.i2l, 1))  (g : Go P M (pc + 1) L (.long x.toInt64 :: st) w out) : Go P M pc L (.int x :: st) w out :=
  go_mv id (fun h hx hc α b r => XT.i2l (g := mkF _ pc (cL α b L) (cV α b (.int x :: st))) h hx rfl (hb hc d) rfl r) g
theorem go_l2i  (d : decode (mB M) pc = .ok (.l2i, 1))  (g : Go P M (pc + 1) L (.int u.toInt32 :: st) w out) : Go P M pc L (.long u :: st) w out :=
  go_mv id (fun h hx hc α b r => XT.l2i (g := mkF _ pc (cL α b L) (cV α b (.long u :: st))) h hx rfl (hb hc d) rfl r) g
theorem go_i2b  (d : decode (mB M) pc = .ok (.i2b, 1))  (g : Go P M (pc + 1) L (.int x.toInt8.toInt32 :: st) w out) : Go P M pc L (.int x :: st) w out :=
  go_mv id (fun h hx hc α b r => XT.i2b (g := mkF _ pc (cL α b L) (cV α b (.int x :: st))) h hx rfl (hb hc d) rfl r) g
theorem go_iinc {k : Nat} {i : Int} (d : decode (mB M) pc = .ok (.iinc k i, 3)) (h1 : L[k]? = some (.val (.int x))) (hv : v = Int32.ofInt i) (hl : storeLocals L.toArray k (.int (x + v)) = some L'.toArray) (g : Go P M (pc + 3) L' (st) w out) : Go P M pc L (st) w out :=
  by subst hv; exact go_mv (fun q => by have := store_size hl; simp at this; omega) (fun h hx hc α b r => XS.iinc (g := mkF _ pc (cL α b L) (cV α b (st))) h hx rfl (hb hc d) (cL_get h1) (storeC hl) r) g
theorem go_goto {o : Int} (d : decode (mB M) pc = .ok (.goto o, 3)) (hp : 0 ≤ (pc : Int) + o ∧ ((pc : Int) + o).toNat = pc') (g : Go P M pc' L (st) w out) : Go P M pc L (st) w out :=
  go_mv id (fun h hx hc α b r => XS.goto (g := mkF _ pc (cL α b L) (cV α b (st))) h hx rfl rfl (hb hc d) hp.1 hp.2 r) g
theorem go_ifY {cd : ClassFile.Cond} {o : Int} (d : decode (mB M) pc = .ok (.ifCond cd o, 3)) (hq : ifCond.holds cd x = true) (hp : 0 ≤ (pc : Int) + o ∧ ((pc : Int) + o).toNat = pc') (g : Go P M pc' L (st) w out) : Go P M pc L (.int x :: st) w out :=
  go_mv id (fun h hx hc α b r => XS.ifYes (g := mkF _ pc (cL α b L) (cV α b (.int x :: st))) h hx rfl rfl (hb hc d) rfl hq hp.1 hp.2 r) g
theorem go_ifN {cd : ClassFile.Cond} {o : Int} (d : decode (mB M) pc = .ok (.ifCond cd o, 3)) (hq : ifCond.holds cd x = false) (g : Go P M (pc + 3) L (st) w out) : Go P M pc L (.int x :: st) w out :=
  go_mv id (fun h hx hc α b r => XS.ifNo (g := mkF _ pc (cL α b L) (cV α b (.int x :: st))) h hx rfl (hb hc d) rfl hq r) g
theorem go_icY {cd : ClassFile.Cond} {o : Int} (d : decode (mB M) pc = .ok (.if_icmp cd o, 3)) (hq : if_icmp.holds cd x y = true) (hp : 0 ≤ (pc : Int) + o ∧ ((pc : Int) + o).toNat = pc') (g : Go P M pc' L (st) w out) : Go P M pc L (.int y :: .int x :: st) w out :=
  go_mv id (fun h hx hc α b r => XS.icmpYes (g := mkF _ pc (cL α b L) (cV α b (.int y :: .int x :: st))) h hx rfl rfl (hb hc d) rfl hq hp.1 hp.2 r) g
theorem go_icN {cd : ClassFile.Cond} {o : Int} (d : decode (mB M) pc = .ok (.if_icmp cd o, 3)) (hq : if_icmp.holds cd x y = false) (g : Go P M (pc + 3) L (st) w out) : Go P M pc L (.int y :: .int x :: st) w out :=
  go_mv id (fun h hx hc α b r => XS.icmpNo (g := mkF _ pc (cL α b L) (cV α b (.int y :: .int x :: st))) h hx rfl (hb hc d) rfl hq r) g
theorem go_nonnull {o : Int} (d : decode (mB M) pc = .ok (.ifnonnull o, 3)) (hp : 0 ≤ (pc : Int) + o ∧ ((pc : Int) + o).toNat = pc') (g : Go P M pc' L st w out) : Go P M pc L (.ref 0 :: st) w out :=
  go_mv id (fun h hx hc α b r => XT.ifnonnullYes (g := mkF _ pc (cL α b L) (cV α b (.ref 0 :: st))) (b := α) h hx rfl rfl (hb hc d) rfl hp.1 hp.2 r) g
theorem go_tswIn {dflt low high : Int} {offs : Array Int} {len : Nat} {o : Int} (d : decode (mB M) pc = .ok (.tableswitch dflt low high offs, len)) (hin : ¬ (x.toInt < low ∨ x.toInt > high)) (hoff : offs[(x.toInt - low).toNat]? = some o) (hp : 0 ≤ (pc : Int) + o ∧ ((pc : Int) + o).toNat = pc') (g : Go P M pc' L st w out) : Go P M pc L (.int x :: st) w out :=
  go_mv id (fun h hx hc α b r => XS.tswIn (g := mkF _ pc (cL α b L) (cV α b (.int x :: st))) h hx rfl rfl (hb hc d) rfl hin hoff hp.1 hp.2 r) g
theorem go_top {x y : Int32} (h : x = y) (g : Go P M pc L (.int y :: st) w out) : Go P M pc L (.int x :: st) w out := by rw [h]; exact g
theorem go_tswOut {dflt low high : Int} {offs : Array Int} {len : Nat} (d : decode (mB M) pc = .ok (.tableswitch dflt low high offs, len)) (hout : x.toInt < low ∨ x.toInt > high) (hp : 0 ≤ (pc : Int) + dflt ∧ ((pc : Int) + dflt).toNat = pc') (g : Go P M pc' L st w out) : Go P M pc L (.int x :: st) w out :=
  go_mv id (fun h hx hc α b r => XS.tswOut (g := mkF _ pc (cL α b L) (cV α b (.int x :: st))) h hx rfl rfl (hb hc d) rfl hout hp.1 hp.2 r) g
/-! ### constants of the pool -/
theorem go_ldc {k : Nat} (d : decode (mB M) pc = .ok (.ldc k, 2)) (hk : Jvm.Cond.constant (mY M).cls k v ∈ P.1) (g : Go P M (pc + 2) L (.int v :: st) w out) : Go P M pc L st w out :=
  go_ch (fun l Z a0 p e R s m args below meth c α b n0 h0 uC uS ok hl T locs cells slots I => ⟨T, locs, cells, slots, I, fun target r => Stand.ldcI (g := mkF m pc (cL α b L) (cV α b st)) I.1 ok.2.2.1 ok.2.2.2.2.1 (mvT ok.2.2.2.1 (ok.1 _ hk)) rfl (hb ok.2.2.2.2.2.1 d) r⟩) g
theorem go_ldcW {k : Nat} (d : decode (mB M) pc = .ok (.ldc_w k, 3)) (hk : Jvm.Cond.constant (mY M).cls k v ∈ P.1) (g : Go P M (pc + 3) L (.int v :: st) w out) : Go P M pc L st w out :=
  go_ch (fun l Z a0 p e R s m args below meth c α b n0 h0 uC uS ok hl T locs cells slots I => ⟨T, locs, cells, slots, I, fun target r => Stand.ldcWI (g := mkF m pc (cL α b L) (cV α b st)) I.1 ok.2.2.1 ok.2.2.2.2.1 (mvT ok.2.2.2.1 (ok.1 _ hk)) rfl (hb ok.2.2.2.2.2.1 d) r⟩) g
theorem go_ldc2 {k : Nat} (d : decode (mB M) pc = .ok (.ldc2_w k, 3)) (hk : Jvm.Cond.constantLong (mY M).cls k u ∈ P.1) (g : Go P M (pc + 3) L (.long u :: st) w out) : Go P M pc L st w out :=
  go_ch (fun l Z a0 p e R s m args below meth c α b n0 h0 uC uS ok hl T locs cells slots I => ⟨T, locs, cells, slots, I, fun target r => Stand.ldc2J (g := mkF m pc (cL α b L) (cV α b st)) I.1 ok.2.2.1 ok.2.2.2.2.1 (mvT ok.2.2.2.1 (ok.1 _ hk)) rfl (hb ok.2.2.2.2.2.1 d) r⟩) g
/-! ### returns -/
theorem go_iret (hT : mT M = some .int) (d : decode (mB M) pc = .ok (.ireturn, 1)) : Go P M pc L (.int x :: st) w (some (.int x), w) := by
  intro hl l Z a0 p e R s m args below meth c α b n0 h0 uC uS ok T locs cells slots I
  exact ⟨T, locs, cells, slots, I, fun fs hv => retOut I.1 ok.2.2.1 (t := .int) (ok.2.2.2.2.2.2.2.1.trans hT) rfl (Or.inl ⟨rfl, Or.inl rfl, x, rfl⟩) (hb ok.2.2.2.2.2.1 d) hv⟩
theorem go_zret (hT : mT M = some .boolean) (d : decode (mB M) pc = .ok (.ireturn, 1)) (hz : v = nar .boolean x) : Go P M pc L (.int x :: st) w (some (.int v), w) := by
  intro hl l Z a0 p e R s m args below meth c α b n0 h0 uC uS ok T locs cells slots I
  subst hz
  exact ⟨T, locs, cells, slots, I, fun fs hv => retN I.1 ok.2.2.1 (t := .boolean) (ok.2.2.2.2.2.2.2.1.trans hT) (Or.inl rfl) (hb ok.2.2.2.2.2.1 d) hv⟩
theorem go_lret (hT : mT M = some .long) (d : decode (mB M) pc = .ok (.lreturn, 1)) : Go P M pc L (.long u :: st) w (some (.long u), w) := by
  intro hl l Z a0 p e R s m args below meth c α b n0 h0 uC uS ok T locs cells slots I
  exact ⟨T, locs, cells, slots, I, fun fs hv => retOut I.1 ok.2.2.1 (t := .long) (ok.2.2.2.2.2.2.2.1.trans hT) rfl (Or.inr (Or.inl ⟨rfl, rfl, u, rfl⟩)) (hb ok.2.2.2.2.2.1 d) hv⟩
theorem go_ret (hT : mT M = none) (d : decode (mB M) pc = .ok (.return_, 1)) : Go P M pc L [] w (none, w) := by
  intro hl l Z a0 p e R s m args below meth c α b n0 h0 uC uS ok T locs cells slots I
  exact ⟨T, locs, cells, slots, I, fun fs hv => I.1.returnOut ok.2.2.1 (ok.2.2.2.2.2.2.2.1.trans hT) (hb ok.2.2.2.2.2.1 d) hv⟩
/-! ### fields -/
variable {o o' : Nat × S} {s : S} {k n : Nat}
theorem rep_one {Z : State} {ci : CI} {α b : Nat} {h : Heap} (F : RepW Z ci α b (none, [o]) h) : Rep1 Z ci h b o := by
  have := F.2 0 o rfl
  simpa using this
theorem rep_mk {Z : State} {ci : CI} {α b : Nat} {h : Heap} (F : Rep1 Z ci h b o) : RepW Z ci α b (none, [o]) h :=
  ⟨fun l hl => (nomatch hl), fun i o1 ho => by
    cases i with
    | zero => cases ho; simpa using F
    | succ i => simp at ho⟩
/-- the entry idx names the scalar field number f; of type ty -/
def FldS (P : PI) (idx f : Nat) (ty : FieldType) : Prop := ∃ nm ds, (cS P.2)[f]? = some (nm, ds, ty) ∧ Jvm.Cond.fieldLink (cN P.2) idx (cN P.2) nm ds ∈ P.1
def FldA (P : PI) (idx q : Nat) (ty : FieldType) : Prop := ∃ nm ds cap, (cA P.2)[q]? = some (nm, ds, ty, cap) ∧ Jvm.Cond.fieldLink (cN P.2) idx (cN P.2) nm ds ∈ P.1
theorem go_getV {idx f : Nat} {ty : FieldType} (F : FldS P idx f ty) (hM : (mY M).cls = cN P.2) (d : decode (mB M) pc = .ok (.getfield idx, 3)) {vv : Value} (hv : vv = scV ty s f) (hr : ∀ α b, con α b vv = vv) (g : Go P M (pc + 3) L (vv :: st) (none, [(k, s)]) out) : Go P M pc L (.ref 1 :: st) (none, [(k, s)]) out :=
  go_ch (fun l Z a0 p e R s1 m args below meth c α b n0 h0 uC uS ok hl T locs cells slots I => by
    obtain ⟨nm, ds, f1, f2⟩ := F
    obtain ⟨hw, fa, hx, hZ, hown, hc, hml, hret, hnm, hR, hn0, htop, hsz⟩ := ok
    obtain ⟨X, Rp, Fm, Nl, hs, u1, u2, c1, c2, hN⟩ := I
    have Fd := (rep_one Rp).2.1 f _ f1
    rw [hM] at hown
    obtain ⟨T', X', e', stp⟩ := getF X hx hZ hown (host := "") (Or.inl (hw _ f2)) Via.refl rfl Fd (g := mkF m pc (cL α b L) (cV α b (.ref 1 :: st))) rfl rfl (hb hc d)
    refine ⟨T', locs, cells, slots, ⟨X', by rw [e']; exact Rp, by rw [e']; exact Fm, Nl, by rw [e']; exact hs, u1, u2, c1, c2, hN⟩, fun target r => stp target ?_⟩
    rw [show cV α b (vv :: st) = con α b vv :: cV α b st from rfl, hr, hv] at r
    exact r) g
theorem go_getI {idx f : Nat} (F : FldS P idx f .int) (hM : (mY M).cls = cN P.2) (d : decode (mB M) pc = .ok (.getfield idx, 3)) (g : Go P M (pc + 3) L (.int (gI s f) :: st) (none, [(k, s)]) out) : Go P M pc L (.ref 1 :: st) (none, [(k, s)]) out :=
  go_getV F hM d rfl (fun _ _ => rfl) g
theorem go_getZ {idx f : Nat} (F : FldS P idx f .boolean) (hM : (mY M).cls = cN P.2) (d : decode (mB M) pc = .ok (.getfield idx, 3)) (g : Go P M (pc + 3) L (.int (gI s f) :: st) (none, [(k, s)]) out) : Go P M pc L (.ref 1 :: st) (none, [(k, s)]) out :=
  go_getV F hM d rfl (fun _ _ => rfl) g
theorem go_getJ {idx f : Nat} (F : FldS P idx f .long) (hM : (mY M).cls = cN P.2) (d : decode (mB M) pc = .ok (.getfield idx, 3)) (g : Go P M (pc + 3) L (.long (gL s f) :: st) (none, [(k, s)]) out) : Go P M pc L (.ref 1 :: st) (none, [(k, s)]) out :=
  go_getV F hM d rfl (fun _ _ => rfl) g
theorem go_getA {idx q : Nat} {ty : FieldType} (F : FldA P idx q ty) (hM : (mY M).cls = cN P.2) (d : decode (mB M) pc = .ok (.getfield idx, 3)) (hq : Nat.blt q k = true) (g : Go P M (pc + 3) L (.ref (q + 2) :: st) (none, [(k, s)]) out) : Go P M pc L (.ref 1 :: st) (none, [(k, s)]) out :=
  go_ch (fun l Z a0 p e R s1 m args below meth c α b n0 h0 uC uS ok hl T locs cells slots I => by
    obtain ⟨nm, ds, cap, f1, f2⟩ := F
    obtain ⟨hw, fa, hx, hZ, hown, hc, hml, hret, hnm, hR, hn0, htop, hsz⟩ := ok
    obtain ⟨X, Rp, Fm, Nl, hs, u1, u2, c1, c2, hN⟩ := I
    have Fd := (rep_one Rp).2.2.1 q _ f1
    rw [if_pos (show q < (k, s).1 by simpa [Nat.blt_eq] using hq)] at Fd
    rw [hM] at hown
    obtain ⟨T', X', e', stp⟩ := getF X hx hZ hown (host := "") (Or.inl (hw _ f2)) Via.refl rfl Fd (g := mkF m pc (cL α b L) (cV α b (.ref 1 :: st))) rfl rfl (hb hc d)
    refine ⟨T', locs, cells, slots, ⟨X', by rw [e']; exact Rp, by rw [e']; exact Fm, Nl, by rw [e']; exact hs, u1, u2, c1, c2, hN⟩, fun target r => stp target ?_⟩
    rw [show cV α b (.ref (q + 2) :: st) = .ref (b + (q + 1)) :: cV α b st from rfl] at r
    rw [show b + 1 + q = b + (q + 1) by omega]
    exact r) g
/-- another scalar of the object takes its value -/
theorem rep_put {Z : State} {a0 : Array Value} {ci : CI} {h h' : Heap} {b : Nat} {s s' : S} {k f : Nat} {nm ds : String} {ty : FieldType} {vv : Value} (fa : Facts Z a0 ci) (F : Rep1 Z ci h b (k, s)) (hf : (cS ci)[f]? = some (nm, ds, ty))
    (Wt : Wr h h' b (Jvm.RoadKit.slotOf Z (cN ci) nm ds) vv) (hv : vv = scV ty s' f) (ho : ∀ f' x, (cS ci)[f']? = some x → f' ≠ f → scV x.2.2 s' f' = scV x.2.2 s f') (ha : gA s' = gA s) (hbb : gB s' = gB s) : Rep1 Z ci h' b (k, s') := by
  obtain ⟨f1, f2, f3, f4⟩ := F
  obtain ⟨-, -, g1, g2, g3, -⟩ := fa
  have lt := get_lt hf
  refine ⟨f1.wr Wt, fun f' x hx => ?_, fun q x hx => ?_, fun q x hx hq => ?_⟩
  · by_cases e : f' = f
    · subst e
      cases hf.symm.trans hx
      show Fld Z h' b (cN ci) nm ds (scV ty s' f')
      rw [← hv]; exact (f2 f' _ hf).same Wt
    · have lt' := get_lt hx
      show Fld Z h' b (cN ci) x.1 x.2.1 (scV x.2.2 s' f')
      rw [ho f' x hx e]
      refine (f2 f' x hx).other Wt (Or.inr ?_)
      refine slot_ne (g1 f' x hx).1 (g1 f _ hf).1 ?_ (g1 f' x hx).2 (g1 f _ hf).2
      intro en
      have n1 : ((cS ci).map (fun x => x.1) ++ (cA ci).map (fun x => x.1))[f']? = some x.1 := by rw [List.getElem?_append_left (by simpa using lt')]; simp [hx]
      have n2 : ((cS ci).map (fun x => x.1) ++ (cA ci).map (fun x => x.1))[f]? = some nm := by rw [List.getElem?_append_left (by simpa using lt)]; simp [hf]
      rw [en] at n1
      obtain ⟨i1, j1⟩ := List.getElem?_eq_some_iff.mp n1
      obtain ⟨i2, j2⟩ := List.getElem?_eq_some_iff.mp n2
      exact e ((List.getElem_inj g3).mp (j1.trans j2.symm))
  · refine (f3 q x hx).other Wt (Or.inr ?_)
    have lt' := get_lt hx
    refine slot_ne (g2 q x hx).1 (g1 f _ hf).1 ?_ (g2 q x hx).2 (g1 f _ hf).2
    intro en
    have n1 : ((cS ci).map (fun x => x.1) ++ (cA ci).map (fun x => x.1))[(cS ci).length + q]? = some x.1 := by rw [List.getElem?_append_right (by simp)]; simp [hx]
    have n2 : ((cS ci).map (fun x => x.1) ++ (cA ci).map (fun x => x.1))[f]? = some nm := by rw [List.getElem?_append_left (by simpa using lt)]; simp [hf]
    rw [en] at n1
    obtain ⟨i1, j1⟩ := List.getElem?_eq_some_iff.mp n1
    obtain ⟨i2, j2⟩ := List.getElem?_eq_some_iff.mp n2
    have := (List.getElem_inj g3).mp (j1.trans j2.symm)
    omega
  · obtain ⟨c, A, e⟩ := f4 q x hx hq
    refine ⟨c, A.other Wt (nq (by omega)), e.trans ?_⟩
    show (arV x.2.2.1 s q).toArray = (arV x.2.2.1 s' q).toArray
    unfold arV
    split <;> simp [ha, hbb]
theorem go_putV {idx f : Nat} {ty : FieldType} {vv : Value} {s' : S} (F : FldS P idx f ty) (hM : (mY M).cls = cN P.2)
    (hlays : ∀ nm ds, (cS P.2)[f]? = some (nm, ds, ty) → Jvm.Cond.lays (cN P.2) (cN P.2) nm ds ∈ P.1 ∨ (Jvm.Cond.laysFinal (cN P.2) (cN P.2) nm ds ∈ P.1 ∧ (mY M).name = "<init>"))
    (hpos : 0 < mN M) (hr : ∀ α b, con α b vv = vv) (hn : narrow ty vv = vv) (hfi : fits ty vv = true) (hv : vv = scV ty s' f) (ho : ∀ f' x, (cS P.2)[f']? = some x → f' ≠ f → scV x.2.2 s' f' = scV x.2.2 s f') (ha : gA s' = gA s) (hbb : gB s' = gB s)
    (d : decode (mB M) pc = .ok (.putfield idx, 3)) (g : Go P M (pc + 3) L st (none, [(k, s')]) out) : Go P M pc L (vv :: .ref 1 :: st) (none, [(k, s)]) out :=
  go_ch (fun l Z a0 p e R s1 m args below meth c α b n0 h0 uC uS ok hl T locs cells slots I => by
    obtain ⟨nm, ds, f1, f2⟩ := F
    obtain ⟨hw, fa, hx, hZ, hown, hc, hml, hret, hnm, hR, hn0, htop, hsz⟩ := ok
    obtain ⟨X, Rp, Fm, Nl, hs, u1, u2, c1, c2, hN⟩ := I
    have Rp1 := rep_one Rp
    have Fd := Rp1.2.1 f _ f1
    rw [hM] at hown
    obtain ⟨T', h', X', e', Wt, stp⟩ := putF X hx hZ hown (host := "") (Or.inl (hw _ f2)) Via.refl rfl Fd Rp1.1 ((hlays nm ds f1).imp (fun q => hw _ q) (fun q => ⟨hw _ q.1, rfl, hnm.trans q.2⟩)) fa.1 (fa.2.2.1 f _ f1).2 hn hfi (g := mkF m pc (cL α b L) (vv :: .ref b :: cV α b st)) rfl rfl (hb hc d)
    refine ⟨T', _, cells, slots, ⟨X', rep_mk (by rw [e']; exact rep_put fa Rp1 f1 Wt hv ho ha hbb), by rw [e']; exact Fm.wr Wt (Nat.le_refl _) (by have := Nat.mul_le_mul_left (cK P.2 + 1) hpos; omega), Fr.snoc X' Nl hn0, by rw [e', Wt.size]; exact hs, u1, u2, c1, c2, hN⟩, fun target r => ?_⟩
    rw [show cV α b (vv :: .ref 1 :: st) = con α b vv :: .ref b :: cV α b st from rfl, hr]
    exact stp target r) g
theorem scV_sI (s : S) (f : Nat) (x : Int32) (ty : FieldType) (f' : Nat) (h : f' ≠ f) : scV ty (sI s f x) f' = scV ty s f' := by
  unfold scV; split <;> simp [gI_sI, gL_sI, h]
theorem scV_sL (s : S) (f : Nat) (x : Int64) (ty : FieldType) (f' : Nat) (h : f' ≠ f) : scV ty (sL s f x) f' = scV ty s f' := by
  unfold scV; split <;> simp [gI_sL, gL_sL, h]
/-- the word that lets the field be written -/
def Wrt (P : PI) (M : Meth) (f : Nat) : Prop := ∃ nm ds ty, (cS P.2)[f]? = some (nm, ds, ty) ∧ (Jvm.Cond.lays (cN P.2) (cN P.2) nm ds ∈ P.1 ∨ (Jvm.Cond.laysFinal (cN P.2) (cN P.2) nm ds ∈ P.1 ∧ (mY M).name = "<init>"))
theorem Wrt.use {f : Nat} {ty : FieldType} (h : Wrt P M f) : ∀ nm ds, (cS P.2)[f]? = some (nm, ds, ty) → Jvm.Cond.lays (cN P.2) (cN P.2) nm ds ∈ P.1 ∨ (Jvm.Cond.laysFinal (cN P.2) (cN P.2) nm ds ∈ P.1 ∧ (mY M).name = "<init>") := by
  obtain ⟨nm, ds, ty', h1, h2⟩ := h
  intro nm' ds' h3
  cases h1.symm.trans h3
  exact h2
theorem go_putI {idx f : Nat} (F : FldS P idx f .int) (hM : (mY M).cls = cN P.2) (hl : Wrt P M f) (hp : 0 < mN M) (d : decode (mB M) pc = .ok (.putfield idx, 3)) (g : Go P M (pc + 3) L st (none, [(k, sI s f x)]) out) : Go P M pc L (.int x :: .ref 1 :: st) (none, [(k, s)]) out :=
  go_putV F hM hl.use hp (fun _ _ => rfl) rfl rfl (by simp [scV, gI_sI]) (fun f' y _ h => scV_sI s f x _ f' h) rfl rfl d g
theorem go_putZ {idx f : Nat} (F : FldS P idx f .boolean) (hM : (mY M).cls = cN P.2) (hl : Wrt P M f) (hp : 0 < mN M) (hz : x = 0 ∨ x = 1) (d : decode (mB M) pc = .ok (.putfield idx, 3)) (g : Go P M (pc + 3) L st (none, [(k, sI s f x)]) out) : Go P M pc L (.int x :: .ref 1 :: st) (none, [(k, s)]) out :=
  go_putV F hM hl.use hp (fun _ _ => rfl) (by rcases hz with rfl | rfl <;> rfl) (by rcases hz with rfl | rfl <;> rfl) (by simp [scV, gI_sI]) (fun f' y _ h => scV_sI s f x _ f' h) rfl rfl d g
theorem go_putJ {idx f : Nat} (F : FldS P idx f .long) (hM : (mY M).cls = cN P.2) (hl : Wrt P M f) (hp : 0 < mN M) (d : decode (mB M) pc = .ok (.putfield idx, 3)) (g : Go P M (pc + 3) L st (none, [(k, sL s f u)]) out) : Go P M pc L (.long u :: .ref 1 :: st) (none, [(k, s)]) out :=
  go_putV F hM hl.use hp (fun _ _ => rfl) rfl rfl (by simp [scV, gL_sL]) (fun f' y _ h => scV_sL s f u _ f' h) rfl rfl d g
/-! ### arrays -/
theorem ix_some {A : Type} {l : List A} {j : Int32} {x : A} (h : ix l j = some x) : ¬ j < 0 ∧ l[j.toNatClampNeg]? = some x := by
  unfold ix at h; split at h
  · cases h
  · rename_i q; exact ⟨q, h⟩
theorem st_some {A : Type} {l l' : List A} {j : Int32} {x : A} (h : Jvm.AM.st l j x = some l') : ¬ j < 0 ∧ j.toNatClampNeg < l.length ∧ l' = l.set j.toNatClampNeg x := by
  unfold Jvm.AM.st at h; split at h
  · cases h
  · rename_i q; split at h
    · rename_i q2; cases h; exact ⟨q, q2, rfl⟩
    · cases h
theorem ar_in {c : Cell} {vs : List Value} {j : Int32} {vv : Value} (e : c.slots = vs.toArray) (h1 : ¬ j < 0) (h2 : vs[j.toNatClampNeg]? = some vv) : ¬ (j < 0 ∨ c.slots.size ≤ j.toNatClampNeg) ∧ c.slots[j.toNatClampNeg]? = some vv := by
  have := get_lt h2
  refine ⟨fun q => ?_, by rw [e]; simpa using h2⟩
  rcases q with q | q
  · exact h1 q
  · rw [e] at q; simp at q; omega
theorem go_iaload {q : Nat} {j : Int32} {nm ds : String} {cap : Nat} (ha : (cA P.2)[q]? = some (nm, ds, .int, cap)) (hq : Nat.blt q k = true) (hx : ix (gA s q) j = some v) (d : decode (mB M) pc = .ok (.iaload, 1)) (g : Go P M (pc + 1) L (.int v :: st) (none, [(k, s)]) out) : Go P M pc L (.int j :: .ref (q + 2) :: st) (none, [(k, s)]) out :=
  go_ch (fun l Z a0 p e R s1 m args below meth c α b n0 h0 uC uS ok hl T locs cells slots I => by
    obtain ⟨cl, A, ec⟩ := (rep_one I.2.1).2.2.2 q _ ha (by simpa [Nat.blt_eq] using hq)
    obtain ⟨h1, h2⟩ := ix_some hx
    obtain ⟨h3, h4⟩ := ar_in ec h1 (vv := .int v) (by simp [arV, h2])
    refine ⟨T, locs, cells, slots, I, fun target r => ?_⟩
    refine I.1.iaload ok.2.2.1 (j := j) (v := .int v) A.1 (State.isArrayOf_alike ok.2.2.2.1.alike A.2.1) A.2.2 h3 h4 (g := mkF m pc (cL α b L) (.int j :: .ref (b + 1 + q) :: cV α b st)) rfl rfl (hb ok.2.2.2.2.2.1 d) _ r |> fun t => ?_
    rw [show cV α b (.int j :: .ref (q + 2) :: st) = .int j :: .ref (b + (q + 1)) :: cV α b st from rfl, show b + (q + 1) = b + 1 + q by omega]
    exact t) g
theorem go_laload {q : Nat} {j : Int32} {nm ds : String} {cap : Nat} (ha : (cA P.2)[q]? = some (nm, ds, .long, cap)) (hq : Nat.blt q k = true) (hx : ix (gB s q) j = some u) (d : decode (mB M) pc = .ok (.laload, 1)) (g : Go P M (pc + 1) L (.long u :: st) (none, [(k, s)]) out) : Go P M pc L (.int j :: .ref (q + 2) :: st) (none, [(k, s)]) out :=
  go_ch (fun l Z a0 p e R s1 m args below meth c α b n0 h0 uC uS ok hl T locs cells slots I => by
    obtain ⟨cl, A, ec⟩ := (rep_one I.2.1).2.2.2 q _ ha (by simpa [Nat.blt_eq] using hq)
    obtain ⟨h1, h2⟩ := ix_some hx
    obtain ⟨h3, h4⟩ := ar_in ec h1 (vv := .long u) (by simp [arV, h2])
    refine ⟨T, locs, cells, slots, I, fun target r => ?_⟩
    refine I.1.laload ok.2.2.1 (j := j) (v := .long u) A.1 (State.isArrayOf_alike ok.2.2.2.1.alike A.2.1) A.2.2 h3 h4 (g := mkF m pc (cL α b L) (.int j :: .ref (b + 1 + q) :: cV α b st)) rfl rfl (hb ok.2.2.2.2.2.1 d) _ r |> fun t => ?_
    rw [show cV α b (.int j :: .ref (q + 2) :: st) = .int j :: .ref (b + (q + 1)) :: cV α b st from rfl, show b + (q + 1) = b + 1 + q by omega]
    exact t) g
theorem go_baload {q : Nat} {j : Int32} {nm ds : String} {ty : FieldType} {cap : Nat} (ha : (cA P.2)[q]? = some (nm, ds, ty, cap)) (hty : ty = .boolean ∨ ty = .byte) (hq : Nat.blt q k = true) (hx : ix (gA s q) j = some v) (d : decode (mB M) pc = .ok (.baload, 1)) (g : Go P M (pc + 1) L (.int v :: st) (none, [(k, s)]) out) : Go P M pc L (.int j :: .ref (q + 2) :: st) (none, [(k, s)]) out :=
  go_ch (fun l Z a0 p e R s1 m args below meth c α b n0 h0 uC uS ok hl T locs cells slots I => by
    obtain ⟨cl, A, ec⟩ := (rep_one I.2.1).2.2.2 q _ ha (by simpa [Nat.blt_eq] using hq)
    obtain ⟨h1, h2⟩ := ix_some hx
    refine ⟨T, locs, cells, slots, I, fun target r => ?_⟩
    rw [show cV α b (.int j :: .ref (q + 2) :: st) = .int j :: .ref (b + (q + 1)) :: cV α b st from rfl, show b + (q + 1) = b + 1 + q by omega]
    rcases hty with rfl | rfl
    · obtain ⟨h3, h4⟩ := ar_in ec h1 (vv := .int v) (by simp [arV, h2])
      exact I.1.baloadBooleans ok.2.2.1 (j := j) (v := .int v) A.1 (State.isArrayOf_alike ok.2.2.2.1.alike A.2.1) A.2.2 h3 h4 (g := mkF m pc (cL α b L) (.int j :: .ref (b + 1 + q) :: cV α b st)) rfl rfl (hb ok.2.2.2.2.2.1 d) _ r
    · obtain ⟨h3, h4⟩ := ar_in ec h1 (vv := .int v) (by simp [arV, h2])
      exact I.1.baloadBytes ok.2.2.1 (j := j) (v := .int v) A.1 (State.isArrayOf_alike ok.2.2.2.1.alike A.2.1) A.2.2 h3 h4 (g := mkF m pc (cL α b L) (.int j :: .ref (b + 1 + q) :: cV α b st)) rfl rfl (hb ok.2.2.2.2.2.1 d) _ r) g
theorem go_alen {q : Nat} {nm ds : String} {ty : FieldType} {cap : Nat} (ha : (cA P.2)[q]? = some (nm, ds, ty, cap)) (hty : ty ≠ .long) (hq : Nat.blt q k = true) (d : decode (mB M) pc = .ok (.arraylength, 1)) (g : Go P M (pc + 1) L (.int (gA s q).length.toInt32 :: st) (none, [(k, s)]) out) : Go P M pc L (.ref (q + 2) :: st) (none, [(k, s)]) out :=
  go_ch (fun l Z a0 p e R s1 m args below meth c α b n0 h0 uC uS ok hl T locs cells slots I => by
    obtain ⟨cl, A, ec⟩ := (rep_one I.2.1).2.2.2 q _ ha (by simpa [Nat.blt_eq] using hq)
    refine ⟨T, locs, cells, slots, I, fun target r => ?_⟩
    have e1 : cl.slots.size = (gA s q).length := by rw [ec]; cases ty <;> simp [arV] at hty ⊢
    rw [show cV α b (.ref (q + 2) :: st) = .ref (b + (q + 1)) :: cV α b st from rfl, show b + (q + 1) = b + 1 + q by omega]
    refine I.1.arraylength ok.2.2.1 (cell := cl) A.1 (State.isArrayOf_alike ok.2.2.2.1.alike A.2.1) (g := mkF m pc (cL α b L) (.ref (b + 1 + q) :: cV α b st)) rfl rfl (hb ok.2.2.2.2.2.1 d) _ ?_
    rw [e1]; exact r) g
theorem go_sload {l0 : List Int32} {os : List (Nat × S)} {j : Int32} (hx : ix l0 j = some v) (d : decode (mB M) pc = .ok (.iaload, 1)) (g : Go P M (pc + 1) L (.int v :: st) (some l0, os) out) : Go P M pc L (.int j :: .ref 0 :: st) (some l0, os) out :=
  go_ch (fun l Z a0 p e R s1 m args below meth c α b n0 h0 uC uS ok hl T locs cells slots I => by
    obtain ⟨cl, A, ec⟩ := (I.2.1.1 l0 rfl).1
    obtain ⟨h1, h2⟩ := ix_some hx
    obtain ⟨h3, h4⟩ := ar_in ec h1 (vv := .int v) (by simp [h2])
    exact ⟨T, locs, cells, slots, I, fun target r => I.1.iaload ok.2.2.1 (j := j) (v := .int v) A.1 (State.isArrayOf_alike ok.2.2.2.1.alike A.2.1) A.2.2 h3 h4 (g := mkF m pc (cL α b L) (cV α b (.int j :: .ref 0 :: st))) rfl rfl (hb ok.2.2.2.2.2.1 d) _ r⟩) g
theorem go_slen {l0 : List Int32} {os : List (Nat × S)} (d : decode (mB M) pc = .ok (.arraylength, 1)) (g : Go P M (pc + 1) L (.int l0.length.toInt32 :: st) (some l0, os) out) : Go P M pc L (.ref 0 :: st) (some l0, os) out :=
  go_ch (fun l Z a0 p e R s1 m args below meth c α b n0 h0 uC uS ok hl T locs cells slots I => by
    obtain ⟨cl, A, ec⟩ := (I.2.1.1 l0 rfl).1
    refine ⟨T, locs, cells, slots, I, fun target r => ?_⟩
    have e1 : cl.slots.size = l0.length := by rw [ec]; simp
    refine I.1.arraylength ok.2.2.1 (cell := cl) A.1 (State.isArrayOf_alike ok.2.2.2.1.alike A.2.1) (g := mkF m pc (cL α b L) (cV α b (.ref 0 :: st))) rfl rfl (hb ok.2.2.2.2.2.1 d) _ ?_
    rw [e1]; exact r) g
/-- a component of an array of the object takes its value -/
theorem rep_store {Z : State} {ci : CI} {h h' : Heap} {b : Nat} {s s' : S} {k q i : Nat} {nm ds : String} {ty : FieldType} {cap : Nat} {vv : Value} (F : Rep1 Z ci h b (k, s)) (hf : (cA ci)[q]? = some (nm, ds, ty, cap)) (hq : q < k)
    (Wt : Wr h h' (b + 1 + q) i vv) (hi : i < (arV ty s q).length) (hv : arV ty s' q = (arV ty s q).set i vv) (ho : ∀ q' x, (cA ci)[q']? = some x → q' ≠ q → arV x.2.2.1 s' q' = arV x.2.2.1 s q') (ha : gI s' = gI s) (hbb : gL s' = gL s) : Rep1 Z ci h' b (k, s') := by
  obtain ⟨f1, f2, f3, f4⟩ := F
  refine ⟨f1.wr Wt, fun f x hx => ?_, fun q' x hx => (f3 q' x hx).other Wt (Or.inl (nq (by omega))), fun q' x hx hq' => ?_⟩
  · have e : scV x.2.2 s' f = scV x.2.2 s f := by unfold scV; split <;> simp [ha, hbb]
    show Fld Z h' b (cN ci) x.1 x.2.1 (scV x.2.2 s' f)
    rw [e]
    exact (f2 f x hx).other Wt (Or.inl (nq (by omega)))
  · by_cases e : q' = q
    · subst e
      cases hf.symm.trans hx
      obtain ⟨c, A, ec⟩ := f4 q' _ hf hq
      refine ⟨_, A.same Wt, ?_⟩
      show (c.setSlot i vv).slots = (arV ty s' q').toArray
      rw [hv]
      simp only [Cell.setSlot, ec]
      simp
    · obtain ⟨c, A, ec⟩ := f4 q' x hx hq'
      refine ⟨c, A.other Wt (nq (by omega)), ec.trans ?_⟩
      rw [ho q' x hx e]
theorem arV_sA (s : S) (q : Nat) (l : List Int32) (ty : FieldType) (q' : Nat) (h : q' ≠ q) : arV ty (sA s q l) q' = arV ty s q' := by
  unfold arV; split <;> simp [gA_sA, gB_sA, h]
theorem arV_sB (s : S) (q : Nat) (l : List Int64) (ty : FieldType) (q' : Nat) (h : q' ≠ q) : arV ty (sB s q l) q' = arV ty s q' := by
  unfold arV; split <;> simp [gA_sB, gB_sB, h]
theorem in_of {c : Cell} {vs : List Value} {j : Int32} (e : c.slots = vs.toArray) (h1 : ¬ j < 0) (h2 : j.toNatClampNeg < vs.length) : ¬ (j < 0 ∨ c.slots.size ≤ j.toNatClampNeg) := fun q => by
  rcases q with q | q
  · exact h1 q
  · rw [e] at q; simp at q; omega
theorem go_iastore {q : Nat} {j : Int32} {nm ds : String} {cap : Nat} {l' : List Int32} (ha : (cA P.2)[q]? = some (nm, ds, .int, cap)) (hq : Nat.blt q k = true) (hp : 0 < mN M) (hx : Jvm.AM.st (gA s q) j x = some l') (d : decode (mB M) pc = .ok (.iastore, 1)) (g : Go P M (pc + 1) L st (none, [(k, sA s q l')]) out) : Go P M pc L (.int x :: .int j :: .ref (q + 2) :: st) (none, [(k, s)]) out :=
  go_ch (fun l Z a0 p e R s1 m args below meth c α b n0 h0 uC uS ok hl T locs cells slots I => by
    have hq' : q < k := by simpa [Nat.blt_eq] using hq
    have hqK := get_lt ha
    obtain ⟨X, Rp, Fm, Nl, hs, u1, u2, c1, c2, hN⟩ := I
    obtain ⟨cl, A, ec⟩ := (rep_one Rp).2.2.2 q _ ha hq'
    obtain ⟨h1, h2, rfl⟩ := st_some hx
    have hin := in_of ec h1 (by simpa [arV] using h2)
    obtain ⟨T', h', X', e', Wt, stp⟩ := stI X ok.2.2.1 ok.2.2.2.1 rfl A (x := x) hin (g := mkF m pc (cL α b L) (.int x :: .int j :: .ref (b + 1 + q) :: cV α b st)) rfl rfl (hb ok.2.2.2.2.2.1 d)
    refine ⟨T', _, cells, slots, ⟨X', rep_mk (by rw [e']; exact rep_store (rep_one Rp) ha hq' Wt (by simpa [arV] using h2) (by simp [arV, gA_sA, List.map_set]) (fun q' y _ h => arV_sA s q _ _ q' h) rfl rfl), by rw [e']; exact Fm.wr Wt (by omega) (by have := Nat.mul_le_mul_left (cK P.2 + 1) hp; simp only [cK] at *; omega), Fr.snoc X' Nl (by have := ok.2.2.2.2.2.2.2.2.2.2.1; omega), by rw [e', Wt.size]; exact hs, u1, u2, c1, c2, hN⟩, fun target r => ?_⟩
    rw [show cV α b (.int x :: .int j :: .ref (q + 2) :: st) = .int x :: .int j :: .ref (b + (q + 1)) :: cV α b st from rfl, show b + (q + 1) = b + 1 + q by omega]
    exact stp target r) g
theorem go_lastore {q : Nat} {j : Int32} {nm ds : String} {cap : Nat} {l' : List Int64} (ha : (cA P.2)[q]? = some (nm, ds, .long, cap)) (hq : Nat.blt q k = true) (hp : 0 < mN M) (hx : Jvm.AM.st (gB s q) j u = some l') (d : decode (mB M) pc = .ok (.lastore, 1)) (g : Go P M (pc + 1) L st (none, [(k, sB s q l')]) out) : Go P M pc L (.long u :: .int j :: .ref (q + 2) :: st) (none, [(k, s)]) out :=
  go_ch (fun l Z a0 p e R s1 m args below meth c α b n0 h0 uC uS ok hl T locs cells slots I => by
    have hq' : q < k := by simpa [Nat.blt_eq] using hq
    have hqK := get_lt ha
    obtain ⟨X, Rp, Fm, Nl, hs, u1, u2, c1, c2, hN⟩ := I
    obtain ⟨cl, A, ec⟩ := (rep_one Rp).2.2.2 q _ ha hq'
    obtain ⟨h1, h2, rfl⟩ := st_some hx
    have hin := in_of ec h1 (by simpa [arV] using h2)
    obtain ⟨T', h', X', e', Wt, stp⟩ := stJ X ok.2.2.1 ok.2.2.2.1 rfl A (x := u) hin (g := mkF m pc (cL α b L) (.long u :: .int j :: .ref (b + 1 + q) :: cV α b st)) rfl rfl (hb ok.2.2.2.2.2.1 d)
    refine ⟨T', _, cells, slots, ⟨X', rep_mk (by rw [e']; exact rep_store (rep_one Rp) ha hq' Wt (by simpa [arV] using h2) (by simp [arV, gB_sB, List.map_set]) (fun q' y _ h => arV_sB s q _ _ q' h) rfl rfl), by rw [e']; exact Fm.wr Wt (by omega) (by have := Nat.mul_le_mul_left (cK P.2 + 1) hp; simp only [cK] at *; omega), Fr.snoc X' Nl (by have := ok.2.2.2.2.2.2.2.2.2.2.1; omega), by rw [e', Wt.size]; exact hs, u1, u2, c1, c2, hN⟩, fun target r => ?_⟩
    rw [show cV α b (.long u :: .int j :: .ref (q + 2) :: st) = .long u :: .int j :: .ref (b + (q + 1)) :: cV α b st from rfl, show b + (q + 1) = b + 1 + q by omega]
    exact stp target r) g
theorem go_bastore {q : Nat} {j : Int32} {nm ds : String} {ty : FieldType} {cap : Nat} {l' : List Int32} (ha : (cA P.2)[q]? = some (nm, ds, ty, cap)) (hty : ty = .boolean ∨ ty = .byte) (hq : Nat.blt q k = true) (hp : 0 < mN M) (hv : v = nar ty x) (hx : Jvm.AM.st (gA s q) j v = some l') (d : decode (mB M) pc = .ok (.bastore, 1)) (g : Go P M (pc + 1) L st (none, [(k, sA s q l')]) out) : Go P M pc L (.int x :: .int j :: .ref (q + 2) :: st) (none, [(k, s)]) out :=
  go_ch (fun l Z a0 p e R s1 m args below meth c α b n0 h0 uC uS ok hl T locs cells slots I => by
    have hq' : q < k := by simpa [Nat.blt_eq] using hq
    have hqK := get_lt ha
    obtain ⟨X, Rp, Fm, Nl, hs, u1, u2, c1, c2, hN⟩ := I
    obtain ⟨cl, A, ec⟩ := (rep_one Rp).2.2.2 q _ ha hq'
    obtain ⟨h1, h2, rfl⟩ := st_some hx
    subst hv
    have hlen : j.toNatClampNeg < (arV ty s q).length := by rcases hty with rfl | rfl <;> simpa [arV] using h2
    have hset : arV ty (sA s q ((gA s q).set j.toNatClampNeg (nar ty x))) q = (arV ty s q).set j.toNatClampNeg (.int (nar ty x)) := by rcases hty with rfl | rfl <;> simp [arV, gA_sA, List.map_set]
    have hin := in_of ec h1 hlen
    obtain ⟨T', h', X', e', Wt, stp⟩ : ∃ T' h', Stand p l e R s1 m args below meth c T' (locs ++ [⟨b + 1 + q, j.toNatClampNeg⟩]) cells slots ∧ T'.heap = h' ∧ Wr T.heap h' (b + 1 + q) j.toNatClampNeg (.int (nar ty x)) ∧ ∀ target, Steps p.tables e below (T'.setTop (mkF m (pc + 1) (cL α b L) (cV α b st))) target → Steps p.tables e below (T.setTop (mkF m pc (cL α b L) (.int x :: .int j :: .ref (b + 1 + q) :: cV α b st))) target := by
      rcases hty with rfl | rfl
      · exact stZ X ok.2.2.1 ok.2.2.2.1 rfl A (x := x) hin (g := mkF m pc (cL α b L) (.int x :: .int j :: .ref (b + 1 + q) :: cV α b st)) rfl rfl (hb ok.2.2.2.2.2.1 d)
      · exact stB X ok.2.2.1 ok.2.2.2.1 rfl A (x := x) hin (g := mkF m pc (cL α b L) (.int x :: .int j :: .ref (b + 1 + q) :: cV α b st)) rfl rfl (hb ok.2.2.2.2.2.1 d)
    refine ⟨T', _, cells, slots, ⟨X', rep_mk (by rw [e']; exact rep_store (rep_one Rp) ha hq' Wt hlen hset (fun q' y _ h => arV_sA s q _ _ q' h) rfl rfl), by rw [e']; exact Fm.wr Wt (by omega) (by have := Nat.mul_le_mul_left (cK P.2 + 1) hp; simp only [cK] at *; omega), Fr.snoc X' Nl (by have := ok.2.2.2.2.2.2.2.2.2.2.1; omega), by rw [e', Wt.size]; exact hs, u1, u2, c1, c2, hN⟩, fun target r => ?_⟩
    rw [show cV α b (.int x :: .int j :: .ref (q + 2) :: st) = .int x :: .int j :: .ref (b + (q + 1)) :: cV α b st from rfl, show b + (q + 1) = b + 1 + q by omega]
    exact stp target r) g
/-! ## 5. A method as a whole; calls -/
def Call (P : PI) (M : Meth) (as : List Value) (w : W) (out : Option Value × W) : Prop :=
  ∀ (l : Launch) (Z : State) (a0 : Array Value) (ws : List Jvm.Cond) (α b n0 : Nat) (h0 : Heap), (∀ d ∈ P.1, d.before a0 Z = true) → Facts Z a0 P.2 → n0 ≤ b → RepW Z P.2 α b w h0 → w.2.length ≤ mN M → (mTop M = true → h0.size = b + usedC w ∧ usedC w = mUC M ∧ usedS P.2 w = mUS M) →
    MetFree l (mY M) (head1 (Jvm.Cond.code (mY M) (mB M) (mL M) (mT M) :: ws) (mR M)) (fun a U => a = (cV α b as).toArray ∧ Z.Warmed39 U.vm ∧ U.heap = h0) (fun _ _ _ _ _ => True)
      (fun _ U o U' => ∃ v L, o = .returned v ∧ (v = out.1.map (con α b) ∧ Fr n0 L ∧ RepW Z P.2 α b out.2 U'.heap ∧ Frm b (b + (cK P.2 + 1) * mN M) h0 U'.heap ∧ ∃ k, U'.heap.size = h0.size + k ∧ k + usedC w = usedC out.2) ∧ FrameEnd U o U' L (mR M).cells (mR M).slots)
theorem call_of_go {as : List Value} (hpl : plainName (mY M).cls = true) (hlen : (entryL as (mL M)).length = mL M) (hret : mT M = none → out.1 = none) (g : Go P M 0 (entryL as (mL M)) [] w out) : Call P M as w out := by
  intro l Z a0 ws α b n0 h0 hw fa hn0 Rp hN htop
  refine MetFree.of_bodySF (plainFor_of_name hpl) hisR ?_
  intro p e s m args below meth c s₁ Bd hml0 hP hK
  obtain ⟨rfl, hZ, hh⟩ := hP
  have X0 : Stand p l e (mR M) s m (cV α b as).toArray below meth c s₁ [] 0 0 := Stand.of_body Bd
  have e0 : s₁.heap = h0 := by rw [← hh, Bd.state]; rfl
  obtain ⟨T', L', c', n', I', fin⟩ := g hlen l Z a0 p e (mR M) s m (cV α b as).toArray below meth c α b n0 h0 (usedC w) (usedS P.2 w) ⟨hw, fa, Bd.exec, hZ, findClass_of_methodNamed Bd.named, Bd.bytes, hml0, Bd.returns, (name_of_methodNamed Bd.named Bd.method).1, rfl, hn0, htop, by rw [hh]⟩ s₁ [] 0 0 ⟨X0, by rw [e0]; exact Rp, by rw [e0]; exact Frm.refl _ _ _, Fr.nil _, by rw [e0]; rfl, by simp, by simp, Nat.zero_le _, Nat.zero_le _, hN⟩
  obtain ⟨X', Rp', Fm', Nl', hs', u1', u2', c1', c2', hN'⟩ := I'
  obtain ⟨fs, hr, hrun, hended, hW, hsame⟩ := X'.leave (v := out.1.map (con α b)) (fun h => by rw [Bd.returns] at h; rw [hret h]; rfl)
  refine ⟨_, _, ?_, hrun, hended, _, _, rfl, ⟨rfl, Nl', Rp', Fm', c', hs', u1'⟩, ⟨_, rfl⟩, hW, hsame.mono c1' c2'⟩
  have q := fin fs hr
  rw [← entry_locals] at q
  exact q
def nr : Value → Bool
  | .ref _ => false
  | _ => true
theorem con_nr {α b : Nat} {v : Value} (h : nr v = true) : con α b v = v := by
  cases v <;> first | rfl | cases h
theorem cV_nr {α b : Nat} {l : List Value} (h : l.all nr = true) : cV α b l = l := by
  have : ∀ x ∈ l, con α b x = x := fun x hx => con_nr (List.all_eq_true.mp h x hx)
  unfold cV
  exact (List.map_congr_left this).trans (List.map_id _)
theorem rep_obj {Z : State} {ci : CI} {α b : Nat} {h : Heap} {i : Nat} (F : RepW Z ci α b w h) (ho : w.2[i]? = some o) : RepW Z ci 0 (b + (cK ci + 1) * i) (none, [o]) h := rep_mk (F.2 i o ho)
theorem rep_back {Z : State} {ci : CI} {α α' b : Nat} {h h' : Heap} {i : Nat} (F : RepW Z ci α b w h) (ho : w.2[i]? = some o) (G : RepW Z ci α' (b + (cK ci + 1) * i) (none, [o']) h') (Fm : Frm (b + (cK ci + 1) * i) (b + (cK ci + 1) * i + (cK ci + 1) * 1) h h') : RepW Z ci α b (w.1, w.2.set i o') h' := by
  refine ⟨fun l hl => ⟨((F.1 l hl).1).frm fun c q => Fm _ _ q (Or.inl ?_), (F.1 l hl).2⟩, fun j oj hj => ?_⟩
  · have := (F.1 l hl).2; exact Nat.lt_of_lt_of_le this (Nat.le_add_right _ _)
  · by_cases e : j = i
    · subst e
      rw [show (w.1, w.2.set j o').2 = w.2.set j o' from rfl, List.getElem?_set_self (get_lt ho)] at hj
      cases hj
      exact rep_one G
    · rw [show (w.1, w.2.set i o').2 = w.2.set i o' from rfl, List.getElem?_set_ne (Ne.symm e)] at hj
      refine (F.2 j oj hj).frm fun x c q1 q2 q3 => Fm _ _ q3 ?_
      rcases Nat.lt_or_gt_of_ne e with q | q
      · have := Nat.mul_le_mul_left (cK ci + 1) q
        rw [Nat.mul_succ] at this; omega
      · have := Nat.mul_le_mul_left (cK ci + 1) q
        rw [Nat.mul_succ] at this; omega
theorem sum_set {A : Type} (f : A → Nat) {a a' : A} : ∀ {l : List A} {i : Nat}, l[i]? = some a → ((l.set i a').map f).sum + f a = (l.map f).sum + f a'
  | [], i, h => by simp at h
  | b :: r, 0, h => by simp at h; subst h; simp; omega
  | b :: r, i + 1, h => by
    simp only [List.getElem?_cons_succ] at h
    have := sum_set f (a' := a') h
    simp only [List.set_cons_succ, List.map_cons, List.sum_cons]; omega
def CQ (ci : CI) (Z : State) (α b n0 : Nat) (h0 : Heap) (N : Nat) (w : W) (out : Option Value × W) (v : Option Value) (hp : Heap) (L : List Loc) : Prop := v = out.1.map (con α b) ∧ Fr n0 L ∧ RepW Z ci α b out.2 hp ∧ Frm b (b + (cK ci + 1) * N) h0 hp ∧ ∃ k, hp.size = h0.size + k ∧ k + usedC w = usedC out.2
/-- what a callee that makes nothing must fit into -/
def Small (M M' : Meth) (rest : List Value) : Prop := (mR M').cells = 0 ∧ (mR M').slots = 0 ∧ mTop M' = false ∧ Nat.ble ((mR M').frames + 1) (mR M).frames = true ∧ Nat.ble ((rest.map fun v => v.category).sum + (mL M' + 11) + (mR M').locals) (mR M).locals = true
theorem ret_st {α b b' : Nat} {r : Option Value} {rest : List Value} (hr : r.all nr = true) : (r.map (con 0 b')).toList ++ cV α b rest = cV α b (r.toList ++ rest) := by
  cases r with
  | none => rfl
  | some v => simp only [Option.map_some, Option.toList_some, cV, List.cons_append, List.nil_append, List.map_cons]; rw [con_nr (show nr v = true from hr), con_nr (show nr v = true from hr)]
theorem inv_obj {l : Launch} {Z : State} {p : Program} {e : Env} {R : Room} {s : State} {m : MethodId} {args : Array Value} {below : List Frame} {meth : Method} {c : Code} {α b n0 : Nat} {h0 : Heap} {uC uS : Nat} {T T2 : State} {locs L2 : List Loc} {cells slots rc rs i : Nat}
    (I : Inv P M l Z p e R s m args below meth c α b n0 h0 uC uS w T locs cells slots) (ho : w.2[i]? = some o) (X2 : Stand p l e R s m args below meth c T2 (locs ++ L2) (cells + rc) (slots + rs))
    (N2 : Fr n0 L2) (R2 : RepW Z P.2 0 (b + (cK P.2 + 1) * i) (none, [o']) T2.heap) (F2 : Frm (b + (cK P.2 + 1) * i) (b + (cK P.2 + 1) * i + (cK P.2 + 1) * 1) T.heap T2.heap) (k2 : ∃ k, T2.heap.size = T.heap.size + k ∧ k + usedC (none, [o]) = usedC (none, [o']))
    (hC : o'.1 = o.1 + rc) (hS : usedS P.2 (none, [o']) = usedS P.2 (none, [o]) + rs) (q1 : cells + rc ≤ R.cells) (q2 : slots + rs ≤ R.slots) : Inv P M l Z p e R s m args below meth c α b n0 h0 uC uS (w.1, w.2.set i o') T2 (locs ++ L2) (cells + rc) (slots + rs) := by
  obtain ⟨X, Rp, Fm, Nl, hs, u1, u2, c1, c2, hN⟩ := I
  obtain ⟨k, k1, k3⟩ := k2
  have hi := get_lt ho
  have a1 := sum_set (fun o : Nat × S => 1 + o.1) (a' := o') ho
  have a2 := sum_set (fun o : Nat × S => cF P.2 + (((cA P.2).take o.1).map fun x => x.2.2.2).sum) (a' := o') ho
  have hle : (cK P.2 + 1) * (i + 1) ≤ (cK P.2 + 1) * mN M := Nat.mul_le_mul_left _ (by omega)
  rw [Nat.mul_succ] at hle
  refine ⟨X2, rep_back Rp ho R2 F2, Fm.trans (F2.wide (Nat.le_add_right _ _) (by omega)), Nl.app N2, ?_, ?_, ?_, q1, q2, by simpa using hN⟩
  · simp only [usedC, List.map_cons, List.map_nil, List.sum_cons, List.sum_nil] at k3; omega
  · simp only [usedC] at u1 ⊢; omega
  · simp only [usedS, List.map_cons, List.map_nil, List.sum_cons, List.sum_nil] at u2 hS ⊢; omega
def LinkV (P : PI) (own : String) (idx : Nat) (M' : Meth) : Prop := Jvm.Cond.methodLink own idx (mY M') ∈ P.1 ∧ Jvm.Cond.declares (mY M') ∈ P.1 ∧ Jvm.Cond.selects (cN P.2) (mY M') (mY M') ∈ P.1 ∧ Jvm.Cond.instanceMethod (mY M') ∈ P.1 ∧ Jvm.Cond.code (mY M') (mB M') (mL M') (mT M') ∈ P.1 ∧ (mY M').cls = cN P.2 ∧ mN M' = 1
def LinkP (P : PI) (own : String) (idx : Nat) (M' : Meth) : Prop := Jvm.Cond.methodLink own idx (mY M') ∈ P.1 ∧ Jvm.Cond.instanceMethod (mY M') ∈ P.1 ∧ Jvm.Cond.privateMethod (mY M') ∈ P.1 ∧ Jvm.Cond.code (mY M') (mB M') (mL M') (mT M') ∈ P.1 ∧ (mY M').cls = cN P.2 ∧ mN M' = 1
def LinkS (P : PI) (own : String) (idx : Nat) (M' : Meth) : Prop := Jvm.Cond.methodLink own idx (mY M') ∈ P.1 ∧ Jvm.Cond.static (mY M') ∈ P.1 ∧ Jvm.Cond.initialized (mY M').cls ∈ P.1 ∧ Jvm.Cond.code (mY M') (mB M') (mL M') (mT M') ∈ P.1 ∧ ((mY M').cls ≠ "java/lang/invoke/MethodHandle" ∧ (mY M').cls ≠ "java/lang/invoke/VarHandle")
def LinkI (P : PI) (own : String) (idx : Nat) (M' : Meth) : Prop := Jvm.Cond.methodLink own idx (mY M') ∈ P.1 ∧ Jvm.Cond.instanceMethod (mY M') ∈ P.1 ∧ Jvm.Cond.code (mY M') (mB M') (mL M') (mT M') ∈ P.1 ∧ (mY M').cls = cN P.2 ∧ mN M' = 1 ∧ mT M' = none ∧ (mY M').name = "<init>"
variable {M' : Meth} {i idx id : Nat} {as rest : List Value} {rv : Option Value} {ps : List FieldType} {rt : Option FieldType}
theorem cV_call {α b : Nat} {jd : Nat} (hnr : as.all nr = true) (hst : st = as.reverse ++ .ref (jd + 1) :: rest) : cV α b st = as.reverse ++ .ref (b + jd) :: cV α b rest := by
  subst hst
  have h1 : cV α b as.reverse = as.reverse := cV_nr (by rw [List.all_reverse]; exact hnr)
  unfold cV at h1 ⊢
  rw [List.map_append, h1]; rfl
theorem go_virt (lk : LinkV P (mY M).cls idx M') (pd : parseMethodDescriptor (mY M').desc = some ⟨ps, rt⟩) (hn : as.length = ps.length) (hid : id = (cK P.2 + 1) * i + 1) (hst : st = as.reverse ++ .ref id :: rest) (hnr : as.all nr = true) (hrr : rv.all nr = true) (ho : w.2[i]? = some o) (hw' : w' = (w.1, w.2.set i o')) (hC : o'.1 = o.1) (sm : Small M M' rest)
    (d : decode (mB M) pc = .ok (.invokevirtual idx, 3)) (cl : Call P M' (.ref 1 :: as) (none, [o]) (rv, (none, [o']))) (g : Go P M (pc + 3) L (rv.toList ++ rest) w' out) : Go P M pc L st w out :=
  go_ch (fun l Z a0 p e R s1 m args below meth c α b n0 h0 uC uS ok hl T locs cells slots I => by
    subst hw' hid
    obtain ⟨hw, fa, hx, hZ, hown, hc, hml, hret, hnm, hR, hn0, htop, hsz⟩ := ok
    obtain ⟨k1, k2, k3, k4, k5, k6, k7⟩ := lk
    obtain ⟨z1, z2, z3, z4, z5⟩ := sm
    have C := cl l Z a0 [] 0 (b + (cK P.2 + 1) * i) n0 T.heap hw fa (Nat.le_trans hn0 (Nat.le_add_right _ _)) (rep_obj I.2.1 ho) (by rw [k7]; exact Nat.le_refl _) (fun q => by rw [z3] at q; cases q)
    have Bk := backOf (Q := CQ P.2 Z 0 (b + (cK P.2 + 1) * i) n0 T.heap (mN M') (none, [o]) (rv, (none, [o']))) (R := R) (p := p) (e := e) (below := below) (s := s1) (args := args) (len := 3) (W := (rest.map fun v => v.category).sum) C hZ (hw _ k5) (by rw [k6]; exact fa.2.1) (by rw [hR]; exact Nat.le_of_ble_eq_true z4) (by rw [hR]; exact Nat.le_of_ble_eq_true z5)
    have E := (I.2.1.2 i o ho).1
    obtain ⟨cB, kB, q1, q2, q3⟩ := isOf (T := T) hZ rfl E
    obtain ⟨v, vm1, ⟨T2, Lx, kx, nx⟩, -, X2, ⟨L2, hQ, l2, y2, n2⟩, stp⟩ := I.1.virtualBack hx (y := mY M') (z := mY M') hown (mvT hZ (hw _ k1)) (mvT hZ (hw _ k2)) (notFace_of_selects (args := #[]) (mvT hZ (hw _ k3))) (mvT hZ (hw _ k3)) (mvT hZ (hw _ k4)) (by rw [k6]; exact fa.2.2.2.2.2.2) Bk q1 q3 (g := mkF m pc (cL α b L) (cV α b st)) rfl (by show (cL α b L).size = c.maxLocals; rw [cL_size, hl, hml]) (Steps.refl _) (argsL := as) (rest := cV α b rest) (lenOf pd hn) (cV_call hnr hst)
      (by show 2 * 0 + _ ≤ _; rw [cV_sum]; exact Nat.le_of_eq (Nat.zero_add _)) (hb hc d) (fun _ _ => ⟨by rw [show (cV 0 (b + (cK P.2 + 1) * i) (.ref 1 :: as)) = .ref (b + (cK P.2 + 1) * i) :: cV 0 (b + (cK P.2 + 1) * i) as from rfl, cV_nr hnr], rfl, by rw [z1]; exact I.2.2.2.2.2.2.2.1, by rw [z2]; exact I.2.2.2.2.2.2.2.2.1⟩)
    dsimp only [Pt.U, Pt.locs, Pt.cells, Pt.slots] at X2 l2 y2 n2 stp hQ
    subst l2 y2 n2
    obtain ⟨rfl, N2, R2, F2, k8⟩ := hQ
    rw [k7] at F2
    refine ⟨T2, _, _, _, inv_obj I ho X2 N2 R2 F2 k8 (by rw [z1]; exact hC) (by rw [z2]; simp [usedS, hC]) (by rw [z1]; exact I.2.2.2.2.2.2.2.1) (by rw [z2]; exact I.2.2.2.2.2.2.2.2.1), fun target r => stp.trans ?_⟩
    rw [← ret_st (b' := b + (cK P.2 + 1) * i) hrr] at r
    exact r) g
theorem go_priv (lk : LinkP P (mY M).cls idx M') (pd : parseMethodDescriptor (mY M').desc = some ⟨ps, rt⟩) (hn : as.length = ps.length) (hid : id = (cK P.2 + 1) * i + 1) (hst : st = as.reverse ++ .ref id :: rest) (hnr : as.all nr = true) (hrr : rv.all nr = true) (ho : w.2[i]? = some o) (hw' : w' = (w.1, w.2.set i o')) (hC : o'.1 = o.1) (sm : Small M M' rest)
    (d : decode (mB M) pc = .ok (.invokevirtual idx, 3)) (cl : Call P M' (.ref 1 :: as) (none, [o]) (rv, (none, [o']))) (g : Go P M (pc + 3) L (rv.toList ++ rest) w' out) : Go P M pc L st w out :=
  go_ch (fun l Z a0 p e R s1 m args below meth c α b n0 h0 uC uS ok hl T locs cells slots I => by
    subst hw' hid
    obtain ⟨hw, fa, hx, hZ, hown, hc, hml, hret, hnm, hR, hn0, htop, hsz⟩ := ok
    obtain ⟨k1, k4, k3, k5, k6, k7⟩ := lk
    obtain ⟨z1, z2, z3, z4, z5⟩ := sm
    have C := cl l Z a0 [] 0 (b + (cK P.2 + 1) * i) n0 T.heap hw fa (Nat.le_trans hn0 (Nat.le_add_right _ _)) (rep_obj I.2.1 ho) (by rw [k7]; exact Nat.le_refl _) (fun q => by rw [z3] at q; cases q)
    have Bk := backOf (Q := CQ P.2 Z 0 (b + (cK P.2 + 1) * i) n0 T.heap (mN M') (none, [o]) (rv, (none, [o']))) (R := R) (p := p) (e := e) (below := below) (s := s1) (args := args) (len := 3) (W := (rest.map fun v => v.category).sum) C hZ (hw _ k5) (by rw [k6]; exact fa.2.1) (by rw [hR]; exact Nat.le_of_ble_eq_true z4) (by rw [hR]; exact Nat.le_of_ble_eq_true z5)
    obtain ⟨cell, q1, q2⟩ := (I.2.1.2 i o ho).1.cell
    have hy : (mY M').cls ≠ "java/lang/invoke/MethodHandle" ∧ (mY M').cls ≠ "java/lang/invoke/VarHandle" := by rw [k6]; exact fa.2.2.2.2.2.2
    have hpriv : s1.PrivateAt (mY M') := Cond.privateMethod_at (mvP hZ (hw _ k3) (args := #[]))
    have hin : (Jvm.Cond.instanceMethod (mY M')).before args s1 = true := mvT hZ (hw _ k4)
    obtain ⟨c2, kk, i1, i2, i3, i4, -⟩ := Cond.instantiable_spec fa.1
    obtain ⟨k', j1, j2⟩ := hZ.alike.2.2 _ _ i2
    have hsel : (Jvm.Cond.selects (mY M').cls (mY M') (mY M')).before args s1 = true := selects_self_of_private (c := c2) (k := k') (by rw [k6, hZ.alike.findClass]; exact i1) j1 (by
      have : kk.isInterface = false := by simp only [Bool.or_eq_false_iff] at i4; exact i4.1
      rw [j2]; exact this) hpriv hin hy
    obtain ⟨v, vm1, ⟨T2, Lx, kx, nx⟩, -, X2, ⟨L2, hQ, l2, y2, n2⟩, stp⟩ := I.1.privateBack hx (y := mY M') hown (mvT hZ (hw _ k1)) hin hsel hpriv (mvT hZ (hw _ k5)) hy Bk (g := mkF m pc (cL α b L) (cV α b st)) rfl (by show (cL α b L).size = c.maxLocals; rw [cL_size, hl, hml]) (Steps.refl _) (a := b + (cK P.2 + 1) * i) q1 q2 (argsL := as) (rest := cV α b rest) (lenOf pd hn) (cV_call hnr hst)
      (by show 2 * 0 + _ ≤ _; rw [cV_sum]; exact Nat.le_of_eq (Nat.zero_add _)) (hb hc d) (fun _ _ => ⟨by rw [show (cV 0 (b + (cK P.2 + 1) * i) (.ref 1 :: as)) = .ref (b + (cK P.2 + 1) * i) :: cV 0 (b + (cK P.2 + 1) * i) as from rfl, cV_nr hnr], rfl, by rw [z1]; exact I.2.2.2.2.2.2.2.1, by rw [z2]; exact I.2.2.2.2.2.2.2.2.1⟩)
    dsimp only [Pt.U, Pt.locs, Pt.cells, Pt.slots] at X2 l2 y2 n2 stp hQ
    subst l2 y2 n2
    obtain ⟨rfl, N2, R2, F2, k8⟩ := hQ
    rw [k7] at F2
    refine ⟨T2, _, _, _, inv_obj I ho X2 N2 R2 F2 k8 (by rw [z1]; exact hC) (by rw [z2]; simp [usedS, hC]) (by rw [z1]; exact I.2.2.2.2.2.2.2.1) (by rw [z2]; exact I.2.2.2.2.2.2.2.2.1), fun target r => stp.trans ?_⟩
    rw [← ret_st (b' := b + (cK P.2 + 1) * i) hrr] at r
    exact r) g
theorem go_stat (lk : LinkS P (mY M).cls idx M') (pd : parseMethodDescriptor (mY M').desc = some ⟨ps, rt⟩) (hn : as.length = ps.length) (hst : st = as.reverse ++ rest) (hN' : mN M' ≤ mN M ∧ w.2.length ≤ mN M') (hu : usedC w' = usedC w ∧ usedS P.2 w' = usedS P.2 w ∧ w'.2.length = w.2.length) (sm : Small M M' rest)
    (d : decode (mB M) pc = .ok (.invokestatic idx, 3)) (cl : Call P M' as w (rv, w')) (g : Go P M (pc + 3) L (rv.toList ++ rest) w' out) : Go P M pc L st w out :=
  go_ch (fun l Z a0 p e R s1 m args below meth c α b n0 h0 uC uS ok hl T locs cells slots I => by
    obtain ⟨hw, fa, hx, hZ, hown, hc, hml, hret, hnm, hR, hn0, htop, hsz⟩ := ok
    obtain ⟨k1, k2, k3, k5, k6⟩ := lk
    obtain ⟨z1, z2, z3, z4, z5⟩ := sm
    have C := cl l Z a0 [] α b n0 T.heap hw fa hn0 I.2.1 hN'.2 (fun q => by rw [z3] at q; cases q)
    have Bk := backOf (Q := CQ P.2 Z α b n0 T.heap (mN M') w (rv, w')) (R := R) (p := p) (e := e) (below := below) (s := s1) (args := args) (len := 3) (W := (rest.map fun v => v.category).sum) C hZ (hw _ k5) (hw _ k3) (by rw [hR]; exact Nat.le_of_ble_eq_true z4) (by rw [hR]; exact Nat.le_of_ble_eq_true z5)
    obtain ⟨v, vm1, ⟨T2, Lx, kx, nx⟩, -, X2, ⟨L2, hQ, l2, y2, n2⟩, stp⟩ := Jvm.LawKit.callS I.1 hx (y := mY M') hown (mvT hZ (hw _ k1)) (mvT hZ (hw _ k2)) (mvT hZ (hw _ k3)) (mvT hZ (hw _ k5)) k6 Bk (g := mkF m pc (cL α b L) (cV α b st)) rfl (by show (cL α b L).size = c.maxLocals; rw [cL_size, hl, hml]) (argsL := cV α b as) (rest := cV α b rest) (lenOf pd (by simpa [cV] using hn)) (by subst hst; simp [cV])
      (by show 2 * 0 + _ ≤ _; rw [cV_sum]; exact Nat.le_of_eq (Nat.zero_add _)) (hb hc d) (fun _ _ => ⟨rfl, rfl, by rw [z1]; exact I.2.2.2.2.2.2.2.1, by rw [z2]; exact I.2.2.2.2.2.2.2.2.1⟩)
    dsimp only [Pt.U, Pt.locs, Pt.cells, Pt.slots] at X2 l2 y2 n2 stp hQ
    subst l2 y2 n2
    obtain ⟨rfl, N2, R2, F2, k, k8, k9⟩ := hQ
    obtain ⟨X, Rp, Fm, Nl, hs, u1, u2, c1, c2, hN⟩ := I
    rw [z1, z2] at X2
    refine ⟨T2, _, _, _, ⟨X2, R2, Fm.trans (F2.wide (Nat.le_refl _) (by have := Nat.mul_le_mul_left (cK P.2 + 1) hN'.1; omega)), Nl.app N2, ?_, ?_, ?_, c1, c2, by rw [hu.2.2]; exact hN⟩, fun target r => stp target ?_⟩
    · rw [k8]; have := hu.1; simp only at k9; omega
    · rw [hu.1]; exact u1
    · rw [hu.2.1]; exact u2
    · have e1 : cV α b (rv.toList ++ rest) = (rv.map (con α b)).toList ++ cV α b rest := by cases rv <;> rfl
      rw [e1] at r; exact r) g
/-- a constructor, by its contract -/
theorem go_init {k2 : Nat} {s2 : S} (lk : LinkI P (mY M).cls idx M') (pd : parseMethodDescriptor (mY M').desc = some ⟨ps, rt⟩) (hn : as.length = ps.length) (hid : id = (cK P.2 + 1) * i + 1) (hst : st = as.reverse ++ .ref id :: rest) (hnr : as.all nr = true) (ho : w.2[i]? = some (k, s)) (hw' : w' = (w.1, w.2.set i (k2, s2)))
    (hC : k2 = k + (mR M').cells) (hS : usedS P.2 (none, [(k2, s2)]) = usedS P.2 (none, [(k, s)]) + (mR M').slots) (htM : mTop M = true) (hR1 : Nat.ble (usedC w + (mR M').cells) ((mR M).cells + mUC M) = true) (hR2 : Nat.ble (usedS P.2 w + (mR M').slots) ((mR M).slots + mUS M) = true)
    (hq : usedC w = (cK P.2 + 1) * i + usedC (none, [(k, s)]) ∧ usedC (none, [(k, s)]) = mUC M' ∧ usedS P.2 (none, [(k, s)]) = mUS M') (sm : Nat.ble ((mR M').frames + 1) (mR M).frames = true ∧ Nat.ble ((rest.map fun v => v.category).sum + (mL M' + 11) + (mR M').locals) (mR M).locals = true)
    (d : decode (mB M) pc = .ok (.invokespecial idx, 3)) (cl : Call P M' (.ref 1 :: as) (none, [(k, s)]) (none, (none, [(k2, s2)]))) (g : Go P M (pc + 3) L rest w' out) : Go P M pc L st w out :=
  go_ch (fun l Z a0 p e R s1 m args below meth c α b n0 h0 uC uS ok hl T locs cells slots I => by
    subst hw' hid
    obtain ⟨hw, fa, hx, hZ, hown, hc, hml, hret, hnm, hR, hn0, htop, hsz⟩ := ok
    obtain ⟨k1, k4, k5, k6, k7, k9, k10⟩ := lk
    obtain ⟨z4, z5⟩ := sm
    obtain ⟨t1, t2, t3⟩ := htop htM
    have Ic := I.2.2.2.2.2.1
    have Is := I.2.2.2.2.2.2.1
    have b1 : cells + (mR M').cells ≤ R.cells := by have := Nat.le_of_ble_eq_true hR1; rw [hR]; omega
    have b2 : slots + (mR M').slots ≤ R.slots := by have := Nat.le_of_ble_eq_true hR2; rw [hR]; omega
    have C := cl l Z a0 [] 0 (b + (cK P.2 + 1) * i) n0 T.heap hw fa (Nat.le_trans hn0 (Nat.le_add_right _ _)) (rep_obj I.2.1 ho) (by rw [k7]; exact Nat.le_refl _) (fun _ => ⟨by rw [I.2.2.2.2.1]; have := hq.1; omega, hq.2.1, hq.2.2⟩)
    have Bk := backOf (Q := CQ P.2 Z 0 (b + (cK P.2 + 1) * i) n0 T.heap (mN M') (none, [(k, s)]) (none, (none, [(k2, s2)]))) (R := R) (p := p) (e := e) (below := below) (s := s1) (args := args) (len := 3) (W := (rest.map fun v => v.category).sum) C hZ (hw _ k5) (by rw [k6]; exact fa.2.1) (by rw [hR]; exact Nat.le_of_ble_eq_true z4) (by rw [hR]; exact Nat.le_of_ble_eq_true z5)
    have hy : (mY M').cls ≠ "java/lang/invoke/MethodHandle" ∧ (mY M').cls ≠ "java/lang/invoke/VarHandle" := by rw [k6]; exact fa.2.2.2.2.2.2
    have hcd := hw _ k5
    rw [k9] at hcd
    obtain ⟨v, vm1, ⟨T2, Lx, kx, nx⟩, -, X2, ⟨L2, hQ, l2, y2, n2⟩, stp⟩ := I.1.specialBack hx (y := mY M') k10 hown (mvT hZ (hw _ k1)) (mvT hZ (hw _ k4)) (mvT hZ hcd) hy Bk (g := mkF m pc (cL α b L) (cV α b st)) rfl (by show (cL α b L).size = c.maxLocals; rw [cL_size, hl, hml]) (Steps.refl _) (a := b + (cK P.2 + 1) * i) (argsL := as) (rest := cV α b rest) (lenOf pd hn) (cV_call hnr hst)
      (by show 2 * 0 + _ ≤ _; rw [cV_sum]; exact Nat.le_of_eq (Nat.zero_add _)) (hb hc d) (fun _ _ => ⟨by rw [show (cV 0 (b + (cK P.2 + 1) * i) (.ref 1 :: as)) = .ref (b + (cK P.2 + 1) * i) :: cV 0 (b + (cK P.2 + 1) * i) as from rfl, cV_nr hnr], rfl, b1, b2⟩)
    dsimp only [Pt.U, Pt.locs, Pt.cells, Pt.slots] at X2 l2 y2 n2 stp hQ
    subst l2 y2 n2
    obtain ⟨rfl, N2, R2, F2, k8⟩ := hQ
    rw [k7] at F2
    exact ⟨T2, _, _, _, inv_obj I ho X2 N2 R2 F2 k8 hC hS b1 b2, fun target r => stp.trans r⟩) g
/-- Object's constructor -/
theorem go_objinit {a : Nat} (k1 : Jvm.Cond.methodLink (mY M).cls idx Lib.objectInit ∈ P.1) (k2 : Jvm.Cond.instanceMethod Lib.objectInit ∈ P.1) (k3 : Jvm.Cond.code Lib.objectInit ⟨#[0xb1]⟩ 1 none ∈ P.1) (z4 : Nat.ble 1 (mR M).frames = true) (z5 : Nat.ble ((rest.map fun v => v.category).sum + 12) (mR M).locals = true)
    (d : decode (mB M) pc = .ok (.invokespecial idx, 3)) (g : Go P M (pc + 3) L rest w out) : Go P M pc L (.ref (a + 1) :: rest) w out :=
  go_ch (fun l Z a0 p e R s1 m args below meth c α b n0 h0 uC uS ok hl T locs cells slots I => by
    obtain ⟨hw, fa, hx, hZ, hown, hc, hml, hret, hnm, hR, hn0, htop, hsz⟩ := ok
    obtain ⟨X, Rp, Fm, Nl, hs, u1, u2, c1, c2, hN⟩ := I
    obtain ⟨T', X', e', stp⟩ := initO X hx hZ hown (hw _ k1) (hw _ k2) (hw _ k3) rfl (g := mkF m pc (cL α b L) (cV α b (.ref (a + 1) :: rest))) rfl (by show (cL α b L).size = c.maxLocals; rw [cL_size, hl, hml]) (a := b + a) (rest := cV α b rest) rfl (hb hc d) (by rw [hR]; exact Nat.le_of_ble_eq_true z4) (W := (rest.map fun v => v.category).sum) (by show 2 * 0 + _ ≤ _; rw [cV_sum]; exact Nat.le_of_eq (Nat.zero_add _)) (by rw [hR]; exact Nat.le_of_ble_eq_true z5)
    exact ⟨T', locs, cells, slots, ⟨X', by rw [e']; exact Rp, by rw [e']; exact Fm, Nl, by rw [e']; exact hs, u1, u2, c1, c2, hN⟩, fun target r => stp target r⟩) g
/-- a new object of the class -/
theorem go_new {n : Nat} (k1 : Jvm.Cond.classLink (mY M).cls idx (cN P.2) ∈ P.1) (htM : mTop M = true) (hn : w.2.length = n) (hq : usedC w = (cK P.2 + 1) * n) (hw' : w' = (w.1, w.2 ++ [(0, s0)])) (hN' : Nat.blt n (mN M) = true) (hR1 : Nat.ble (usedC w + 1) ((mR M).cells + mUC M) = true) (hR2 : Nat.ble (usedS P.2 w + cF P.2) ((mR M).slots + mUS M) = true)
    (d : decode (mB M) pc = .ok (.new idx, 3)) (hid : id = (cK P.2 + 1) * n + 1) (g : Go P M (pc + 3) L (.ref id :: st) w' out) : Go P M pc L st w out :=
  go_ch (fun l Z a0 p e R s1 m args below meth c α b n0 h0 uC uS ok hl T locs cells slots I => by
    subst hw' hid
    obtain ⟨hw, fa, hx, hZ, hown, hc, hml, hret, hnm, hR, hn0, htop, hsz⟩ := ok
    obtain ⟨X, Rp, Fm, Nl, hs, u1, u2, c1, c2, hN⟩ := I
    obtain ⟨t1, t2, t3⟩ := htop htM
    have b1 : cells + 1 ≤ R.cells := by have := Nat.le_of_ble_eq_true hR1; rw [hR]; omega
    have b2 : slots + cF P.2 ≤ R.slots := by have := Nat.le_of_ble_eq_true hR2; rw [hR]; omega
    obtain ⟨T2, h2, X2, e2, E2, A2, D2, -, st2⟩ := newO X hx hZ hown (hw _ k1) fa.1 fa.2.1 rfl (g := mkF m pc (cL α b L) (cV α b st)) rfl (hb hc d) b1 b2
    have ha : T.heap.size = b + (cK P.2 + 1) * n := by rw [hs, t1]; omega
    rw [ha] at A2 D2 st2
    have sz2 : T2.heap.size = T.heap.size + 1 := by
      have q1 := X2.heapSize
      have q2 : b + (cK P.2 + 1) * n < h2.size := A2.lt
      rw [e2] at q1 ⊢
      omega
    refine ⟨T2, locs, _, _, ⟨X2, ?_, by rw [e2]; exact Fm.ext E2, Nl, by rw [sz2, hs]; omega, ?_, ?_, b1, b2, ?_⟩, fun target r => st2 target ?_⟩
    · rw [e2]
      refine ⟨fun l1 h1 => (Rp.ext E2).1 l1 h1, fun j oj hj => ?_⟩
      by_cases q : j < w.2.length
      · rw [show (w.1, w.2 ++ [(0, s0)]).2 = w.2 ++ [(0, s0)] from rfl, List.getElem?_append_left q] at hj
        exact (Rp.ext E2).2 j oj hj
      · have hj' := get_lt hj
        simp at hj'
        have ej : j = n := by omega
        subst ej
        rw [show (w.1, w.2 ++ [(0, s0)]).2 = w.2 ++ [(0, s0)] from rfl, List.getElem?_append_right (by omega)] at hj
        rw [hn] at hj; simp at hj; subst hj
        refine ⟨A2, fun f x hx => ?_, fun q x hx => ?_, fun q x _ hq => absurd hq (Nat.not_lt_zero _)⟩
        · have := D2 (fa.2.2.1 f x hx).1 (fa.2.2.1 f x hx).2
          rw [fa.2.2.2.2.2.1 f x hx] at this
          exact this
        · have := D2 (fa.2.2.2.1 q x hx).1 (fa.2.2.2.1 q x hx).2
          rw [if_neg (Nat.not_lt_zero _)]
          exact this
    · simp [usedC] at u1 ⊢; omega
    · simp [usedS] at u2 ⊢; omega
    · simp; have : n < mN M := by simpa [Nat.blt_eq] using hN'
      omega
    · exact r) g
/-- a new array, laid into its field at once -/
theorem rep_new {Z : State} {a0 : Array Value} {ci : CI} {h h1 h2 : Heap} {b : Nat} {s s' : S} {k : Nat} {nm ds : String} {ty : FieldType} {cap : Nat} {cl : Cell} (fa : Facts Z a0 ci) (F : Rep1 Z ci h b (k, s)) (hf : (cA ci)[k]? = some (nm, ds, ty, cap)) (E : Ext h h1) (A : Arr Z h1 (b + 1 + k) cl ty) (ec : cl.slots = (arV ty s' k).toArray)
    (Wt : Wr h1 h2 b (Jvm.RoadKit.slotOf Z (cN ci) nm ds) (.ref (b + 1 + k))) (ho : ∀ q' x, (cA ci)[q']? = some x → q' ≠ k → arV x.2.2.1 s' q' = arV x.2.2.1 s q') (ha : gI s' = gI s) (hbb : gL s' = gL s) : Rep1 Z ci h2 b (k + 1, s') := by
  obtain ⟨f1, f2, f3, f4⟩ := F
  obtain ⟨-, -, g1, g2, g3, -⟩ := fa
  have lt := get_lt hf
  refine ⟨(f1.ext E).wr Wt, fun f x hx => ?_, fun q x hx => ?_, fun q x hx hq => ?_⟩
  · have e : scV x.2.2 s' f = scV x.2.2 s f := by unfold scV; split <;> simp [ha, hbb]
    have lt' := get_lt hx
    show Fld Z h2 b (cN ci) x.1 x.2.1 (scV x.2.2 s' f)
    rw [e]
    refine ((f2 f x hx).ext E).other Wt (Or.inr ?_)
    refine slot_ne (g1 f x hx).1 (g2 k _ hf).1 ?_ (g1 f x hx).2 (g2 k _ hf).2
    intro en
    have n1 : ((cS ci).map (fun x => x.1) ++ (cA ci).map (fun x => x.1))[f]? = some x.1 := by rw [List.getElem?_append_left (by simpa using lt')]; simp [hx]
    have n2 : ((cS ci).map (fun x => x.1) ++ (cA ci).map (fun x => x.1))[(cS ci).length + k]? = some nm := by rw [List.getElem?_append_right (by simp)]; simp [hf]
    rw [en] at n1
    obtain ⟨i1, j1⟩ := List.getElem?_eq_some_iff.mp n1
    obtain ⟨i2, j2⟩ := List.getElem?_eq_some_iff.mp n2
    have := (List.getElem_inj g3).mp (j1.trans j2.symm)
    omega
  · by_cases e : q = k
    · subst e
      cases hf.symm.trans hx
      rw [if_pos (show q < (q + 1, s').1 from Nat.lt_succ_self q)]
      exact ((f3 q _ hf).ext E).same Wt
    · have lt' := get_lt hx
      have e2 : (if q < (k + 1, s').1 then Value.ref (b + 1 + q) else Value.null) = (if q < (k, s).1 then Value.ref (b + 1 + q) else Value.null) := by
        show (if q < k + 1 then _ else _) = (if q < k then _ else _)
        by_cases q1 : q < k
        · rw [if_pos q1, if_pos (by omega)]
        · rw [if_neg q1, if_neg (by omega)]
      rw [e2]
      refine ((f3 q x hx).ext E).other Wt (Or.inr ?_)
      refine slot_ne (g2 q x hx).1 (g2 k _ hf).1 ?_ (g2 q x hx).2 (g2 k _ hf).2
      intro en
      have n1 : ((cS ci).map (fun x => x.1) ++ (cA ci).map (fun x => x.1))[(cS ci).length + q]? = some x.1 := by rw [List.getElem?_append_right (by simp)]; simp [hx]
      have n2 : ((cS ci).map (fun x => x.1) ++ (cA ci).map (fun x => x.1))[(cS ci).length + k]? = some nm := by rw [List.getElem?_append_right (by simp)]; simp [hf]
      rw [en] at n1
      obtain ⟨i1, j1⟩ := List.getElem?_eq_some_iff.mp n1
      obtain ⟨i2, j2⟩ := List.getElem?_eq_some_iff.mp n2
      have := (List.getElem_inj g3).mp (j1.trans j2.symm)
      omega
  · by_cases e : q = k
    · subst e
      cases hf.symm.trans hx
      exact ⟨cl, A.other Wt (nq (by omega)), ec⟩
    · obtain ⟨c, B, eb⟩ := f4 q x hx (by have : q < k + 1 := hq; show q < k; omega)
      refine ⟨c, (B.ext E).other Wt (nq (by omega)), eb.trans ?_⟩
      rw [ho q x hx e]
theorem go_newV {aty : ArrayType} {ty : FieldType} {nm ds : String} {cap : Nat} {n : Int32} {s' : S} (hty : newarray.typeOf aty = ty) (ha : (cA P.2)[k]? = some (nm, ds, ty, cap)) (k0 : Jvm.Cond.arrayClass ty ∈ P.1) (k1 : Jvm.Cond.fieldLink (cN P.2) idx (cN P.2) nm ds ∈ P.1) (hM : (mY M).cls = cN P.2)
    (hlays : Jvm.Cond.lays (cN P.2) (cN P.2) nm ds ∈ P.1 ∨ (Jvm.Cond.laysFinal (cN P.2) (cN P.2) nm ds ∈ P.1 ∧ (mY M).name = "<init>")) (htM : mTop M = true) (hp : 0 < mN M) (hn : ¬ n < 0) (hcap : Nat.ble n.toNatClampNeg cap = true) (hbig : Nat.ble (cap * 8) 536870912 = true)
    (hR1 : Nat.ble (1 + k + 1) ((mR M).cells + mUC M) = true) (hR2 : Nat.ble (usedS P.2 (none, [(k, s)]) + cap) ((mR M).slots + mUS M) = true)
    (hv : arV ty s' k = List.replicate n.toNatClampNeg (defaultValue ty)) (hoth : ∀ q' x, (cA P.2)[q']? = some x → q' ≠ k → arV x.2.2.1 s' q' = arV x.2.2.1 s q') (hgI : gI s' = gI s) (hgL : gL s' = gL s)
    (d : decode (mB M) pc = .ok (.newarray aty, 2)) (d2 : decode (mB M) (pc + 2) = .ok (.putfield idx, 3)) (g : Go P M (pc + 5) L st (none, [(k + 1, s')]) out) : Go P M pc L (.int n :: .ref 1 :: st) (none, [(k, s)]) out :=
  go_ch (fun l Z a0 p e R s1 m args below meth c α b n0 h0 uC uS ok hl T locs cells slots I => by
    obtain ⟨hw, fa, hx, hZ, hown, hc, hml, hret, hnm, hR, hn0, htop, hsz⟩ := ok
    obtain ⟨X, Rp, Fm, Nl, hs, u1, u2, c1, c2, hN⟩ := I
    obtain ⟨t1, t2, t3⟩ := htop htM
    have u1' : cells + uC = 1 + k := by simpa [usedC] using u1
    have b1 : cells + 1 ≤ R.cells := by have := Nat.le_of_ble_eq_true hR1; rw [hR]; omega
    have b2 : slots + cap ≤ R.slots := by have := Nat.le_of_ble_eq_true hR2; rw [hR]; omega
    subst hty
    obtain ⟨T2, h2, cA2, X2, e2, E2, A2, st2⟩ := newP X hx hZ (hw _ k0) rfl (g := mkF m pc (cL α b L) (.int n :: .ref b :: cV α b st)) rfl (hb hc d) rfl hn (Nat.le_of_ble_eq_true hcap) (Nat.le_of_ble_eq_true hbig) b1 b2
    have hadr : T.heap.size = b + 1 + k := by rw [hs, t1]; omega
    rw [hadr] at A2 st2
    have sz2 : T2.heap.size = T.heap.size + 1 := by
      have q1 := X2.heapSize
      have q2 : b + 1 + k < h2.size := A2.lt
      rw [e2] at q1 ⊢
      omega
    have Rp1 := rep_one Rp
    have Fd := Rp1.2.2.1 k _ ha
    rw [if_neg (show ¬ k < (k, s).1 from Nat.lt_irrefl k)] at Fd
    rw [hM] at hown
    obtain ⟨T3, h3, X3, e3, Wt, st3⟩ := putF X2 hx hZ hown (host := "") (Or.inl (hw _ k1)) Via.refl e2 (Fd.ext E2) (Rp1.1.ext E2) (hlays.imp (fun q => hw _ q) (fun q => ⟨hw _ q.1, rfl, hnm.trans q.2⟩)) fa.1 (fa.2.2.2.1 k _ ha).2 (v := .ref (b + 1 + k)) rfl rfl (g := mkF m (pc + 2) (cL α b L) (.ref (b + 1 + k) :: .ref b :: cV α b st)) rfl rfl (hb hc d2)
    refine ⟨T3, _, _, _, ⟨X3, rep_mk (by rw [e3]; exact rep_new fa Rp1 ha E2 A2 (by rw [hv]; simp [newA]) Wt hoth hgI hgL), by rw [e3]; exact (Fm.ext E2).wr Wt (Nat.le_refl _) (by have := Nat.mul_le_mul_left (cK P.2 + 1) hp; omega), Fr.snoc X3 Nl hn0, by rw [e3, Wt.size, ← e2, sz2, hs]; omega, by simp [usedC]; omega, ?_, b1, b2, hN⟩, fun target r => st2 target (st3 target r)⟩
    have hk := get_lt ha
    simp only [usedS, List.map_cons, List.map_nil, List.sum_cons, List.sum_nil] at u2 ⊢
    rw [List.take_add_one, List.map_append, List.sum_append, ha]
    simp [List.map_take] at u2 ⊢; omega) g
theorem go_newI {aty : ArrayType} {ty : FieldType} {nm ds : String} {cap : Nat} {n : Int32} (hty : newarray.typeOf aty = ty) (hi : ty = .int ∨ ty = .boolean ∨ ty = .byte) (ha : (cA P.2)[k]? = some (nm, ds, ty, cap)) (k0 : Jvm.Cond.arrayClass ty ∈ P.1) (k1 : Jvm.Cond.fieldLink (cN P.2) idx (cN P.2) nm ds ∈ P.1) (hM : (mY M).cls = cN P.2)
    (hlays : Jvm.Cond.lays (cN P.2) (cN P.2) nm ds ∈ P.1 ∨ (Jvm.Cond.laysFinal (cN P.2) (cN P.2) nm ds ∈ P.1 ∧ (mY M).name = "<init>")) (htM : mTop M = true) (hp : 0 < mN M) (hn : ¬ n < 0) (hcap : Nat.ble n.toNatClampNeg cap = true) (hbig : Nat.ble (cap * 8) 536870912 = true)
    (hR1 : Nat.ble (1 + k + 1) ((mR M).cells + mUC M) = true) (hR2 : Nat.ble (usedS P.2 (none, [(k, s)]) + cap) ((mR M).slots + mUS M) = true)
    (d : decode (mB M) pc = .ok (.newarray aty, 2)) (d2 : decode (mB M) (pc + 2) = .ok (.putfield idx, 3)) (g : Go P M (pc + 5) L st (none, [(k + 1, sA s k (rep n.toNatClampNeg 0))]) out) : Go P M pc L (.int n :: .ref 1 :: st) (none, [(k, s)]) out :=
  go_newV hty ha k0 k1 hM hlays htM hp hn hcap hbig hR1 hR2 (by rcases hi with rfl | rfl | rfl <;> simp [arV, gA_sA, defaultValue, rep]) (fun q' x _ h => arV_sA s k _ _ q' h) rfl rfl d d2 g
theorem go_newJ {nm ds : String} {cap : Nat} {n : Int32} (ha : (cA P.2)[k]? = some (nm, ds, .long, cap)) (k0 : Jvm.Cond.arrayClass .long ∈ P.1) (k1 : Jvm.Cond.fieldLink (cN P.2) idx (cN P.2) nm ds ∈ P.1) (hM : (mY M).cls = cN P.2)
    (hlays : Jvm.Cond.lays (cN P.2) (cN P.2) nm ds ∈ P.1 ∨ (Jvm.Cond.laysFinal (cN P.2) (cN P.2) nm ds ∈ P.1 ∧ (mY M).name = "<init>")) (htM : mTop M = true) (hp : 0 < mN M) (hn : ¬ n < 0) (hcap : Nat.ble n.toNatClampNeg cap = true) (hbig : Nat.ble (cap * 8) 536870912 = true)
    (hR1 : Nat.ble (1 + k + 1) ((mR M).cells + mUC M) = true) (hR2 : Nat.ble (usedS P.2 (none, [(k, s)]) + cap) ((mR M).slots + mUS M) = true)
    (d : decode (mB M) pc = .ok (.newarray .long, 2)) (d2 : decode (mB M) (pc + 2) = .ok (.putfield idx, 3)) (g : Go P M (pc + 5) L st (none, [(k + 1, sB s k (rep n.toNatClampNeg 0))]) out) : Go P M pc L (.int n :: .ref 1 :: st) (none, [(k, s)]) out :=
  go_newV (aty := .long) (ty := .long) rfl ha k0 k1 hM hlays htM hp hn hcap hbig hR1 hR2 (by simp [arV, gB_sB, defaultValue, rep]) (fun q' x _ h => arV_sB s k _ _ q' h) rfl rfl d d2 g
end Rules
/-! ## the start -/
theorem tsw_out {x : Int32} {lo hi : Int} (h1 : -2147483648 ≤ lo) (h2 : hi < 2147483648) (ks : List Int32) (hk : ks = ((List.range (hi - lo + 1).toNat).map fun (j : Nat) => Int32.ofInt (lo + (j : Int)))) (hx : ∀ k ∈ ks, x ≠ k) : x.toInt < lo ∨ x.toInt > hi := by
  by_cases q1 : x.toInt < lo
  · exact Or.inl q1
  by_cases q2 : x.toInt > hi
  · exact Or.inr q2
  refine absurd rfl (hx x ?_)
  rw [hk, List.mem_map]
  refine ⟨(x.toInt - lo).toNat, List.mem_range.mpr (by omega), ?_⟩
  rw [show lo + (((x.toInt - lo).toNat : Nat) : Int) = x.toInt by omega]
  exact Int32.ofInt_toInt x
theorem list_of_array {V : Type} (a : Array V) (f : Nat → V) (h : ∀ j, j < a.size → a[j]? = some (f j)) : a = ((List.range a.size).map f).toArray := by
  apply Array.ext'
  apply List.ext_getElem?
  intro j
  by_cases q : j < a.size
  · simpa [q] using h j q
  · simp [q]
theorem small_len {n : Nat} {k : Int32} (h : n < 2 ^ 31) (q : n.toInt32 ≤ k) : (n : Int) ≤ k.toInt := by
  have e : (Int32.ofNat n).toInt = n := Int32.toInt_ofNat_of_lt h
  have := Int32.le_iff_toInt_le.mp q
  rwa [show n.toInt32.toInt = n from e] at this
theorem script_of {s : State} {args : Array Value} {t : Term} {k : Int32} (hf : Fit s) (h1 : (Cond.arrayOf t .int).value args s none s [] = some true) (h2 : (Cond.le (.length t) (.int k)).value args s none s [] = some true) :
    ∃ (a : Nat) (l : List Int32), t.eval args s none [] s = some (.ref a) ∧ Ar s s.heap a .int (l.map .int) ∧ a < s.heap.size ∧ (l.length : Int) ≤ k.toInt := by
  obtain ⟨a, ev⟩ := arr_v h1
  obtain ⟨c, A⟩ := Arr.start ev h1
  obtain ⟨x, y, ex, ey, -, -⟩ := cmp_v (Or.inr (Or.inr h2))
  obtain ⟨b, cell, e1, e2, e3, ev2⟩ := Jvm.Lib.length_spec ex
  have ea : b = a := by rw [ev] at e1; cases e1; rfl
  have ec : cell = c := by
    have := Arr.fin (Vm.Alike.refl _) A
    rw [ea, this] at e2; cases e2; rfl
  subst ea ec ev2
  obtain ⟨n, en, S⟩ := Scr.start hf A e3
  have hle : cell.slots.size.toInt32 ≤ k := by
    have ek : (Term.int k).eval args s none [] s = some (.int k) := rfl
    simp only [Cond.value, ex, ek] at h2
    simpa using h2
  refine ⟨b, (List.range cell.slots.size).map fun j => atv cell (Int32.ofNat j), ev, ⟨cell, A, ?_⟩, A.lt, ?_⟩
  · rw [List.map_map]
    refine list_of_array cell.slots _ fun j hj => ?_
    have e4 : (Int32.ofNat j).toNatClampNeg = j := by
      have : (Int32.ofNat j).toInt = j := Int32.toInt_ofNat_of_lt (by omega)
      simp [Int32.toNatClampNeg, this]
    have e5 : ¬ (Int32.ofNat j < 0) := by
      rw [Int32.lt_iff_toInt_lt, Int32.toInt_ofNat_of_lt (by omega)]; simp
    have := S.2.2.2 (Int32.ofNat j) (by rw [e4]; rintro (q | q); exact e5 q; omega)
    rw [e4] at this
    exact this
  · simpa using small_len e3 hle
theorem repW_none (Z : State) (ci : CI) (α b : Nat) (h : Heap) : RepW Z ci α b (none, []) h := ⟨fun l hl => (by cases hl), fun i o ho => (by simp at ho)⟩
theorem repW_some {Z : State} {ci : CI} {α b : Nat} {h : Heap} {l : List Int32} (A : Ar Z h α .int (l.map .int)) (q : α < b) : RepW Z ci α b (some l, []) h := ⟨fun l' hl => by cases hl; exact ⟨A, q⟩, fun i o ho => by simp at ho⟩
end Jvm.AM
/-! ## plain lemmas on ints, arrays and updates -/
namespace Jvm.PL
open Jvm.AM
theorem ofNat_toInt {k : Nat} (h : k < 2147483648) : (Int32.ofNat k).toInt = k := Int32.toInt_ofNat_of_lt h
theorem ofNat_lt {k m : Nat} (hk : k < 2147483648) (hm : m < 2147483648) : Int32.ofNat k < Int32.ofNat m ↔ k < m := by
  rw [Int32.lt_iff_toInt_lt, ofNat_toInt hk, ofNat_toInt hm]; omega
theorem lt_lit {k m : Nat} (hk : k < 2147483648) (hm : m < 2147483648 := by decide) : Int32.ofNat k < (OfNat.ofNat m : Int32) ↔ k < m := ofNat_lt hk hm
theorem ofNat_succ (k : Nat) : Int32.ofNat k + 1 = Int32.ofNat (k + 1) := by
  rw [Int32.ofNat_add]; rfl
theorem ofNat_nonneg {k : Nat} (hk : k < 2147483648) : ¬ Int32.ofNat k < 0 := by rw [Int32.lt_iff_toInt_lt, ofNat_toInt hk]; simp
theorem ofNat_clamp {k : Nat} (hk : k < 2147483648) : (Int32.ofNat k).toNatClampNeg = k := by simp [Int32.toNatClampNeg, ofNat_toInt hk]
theorem ix_ofNat {A : Type} (l : List A) {k : Nat} (hk : k < 2147483648) : ix l (Int32.ofNat k) = l[k]? := by
  unfold ix; rw [if_neg (ofNat_nonneg hk), ofNat_clamp hk]
theorem st_ofNat {A : Type} (l : List A) (x : A) {k : Nat} (hk : k < 2147483648) (hl : k < l.length) : Jvm.AM.st l (Int32.ofNat k) x = some (l.set k x) := by
  unfold Jvm.AM.st; rw [if_neg (ofNat_nonneg hk), ofNat_clamp hk, if_pos hl]
theorem toInt_clamp {v : Int32} (h : ¬ v < 0) : (v.toNatClampNeg : Int) = v.toInt := by
  rw [Int32.lt_iff_toInt_lt] at h
  simp only [Int32.toNatClampNeg]
  have : (0 : Int32).toInt = 0 := rfl
  omega
theorem eq_ofNat {v : Int32} (h : ¬ v < 0) : v = Int32.ofNat v.toNatClampNeg ∧ v.toNatClampNeg < 2147483648 := by
  have h1 := toInt_clamp h
  have h2 := v.toInt_lt
  have h3 : v.toNatClampNeg < 2147483648 := by omega
  refine ⟨Int32.toInt_inj.mp ?_, h3⟩
  rw [ofNat_toInt h3]; exact h1.symm
theorem ix_rep {A : Type} {v : Int32} {n : Nat} {x : A} (h0 : ¬ v < 0) (h1 : v < Int32.ofNat n) (hn : n < 2147483648) : ix (rep n x) v = some x := by
  obtain ⟨e, hl⟩ := eq_ofNat h0
  rw [e] at h1 ⊢
  have h2 := (ofNat_lt hl hn).mp h1
  rw [ix_ofNat _ hl, rep_get, if_pos h2]
theorem ix_nat {A : Type} (l : List A) {v : Int32} (h0 : ¬ v < 0) : ix l v = l[v.toNatClampNeg]? := by unfold ix; rw [if_neg h0]
theorem st_nat {A : Type} (l : List A) {v : Int32} {x : A} (h0 : ¬ v < 0) (hl : v.toNatClampNeg < l.length) : Jvm.AM.st l v x = some (l.set v.toNatClampNeg x) := by
  unfold Jvm.AM.st; rw [if_neg h0, if_pos hl]
theorem clamp_lt {v : Int32} {n : Nat} (h0 : ¬ v < 0) (h1 : v < Int32.ofNat n) (hn : n < 2147483648) : v.toNatClampNeg < n := by
  obtain ⟨e, hl⟩ := eq_ofNat h0
  rw [e] at h1
  exact (ofNat_lt hl hn).mp h1
theorem clamp_inj {v w : Int32} (h0 : ¬ v < 0) (h1 : ¬ w < 0) : v.toNatClampNeg = w.toNatClampNeg ↔ v = w := by
  constructor
  · intro h
    have a := toInt_clamp h0
    have b := toInt_clamp h1
    exact Int32.toInt_inj.mp (by omega)
  · intro h; rw [h]
end Jvm.PL
namespace Jvm.PL
open Jvm.AM
/-- all but the named fields and arrays is as it was -/
def Fx (I L A B : List Nat) (s s' : S) : Prop := (∀ f, f ∉ I → gI s' f = gI s f) ∧ (∀ f, f ∉ L → gL s' f = gL s f) ∧ (∀ f, f ∉ A → gA s' f = gA s f) ∧ (∀ f, f ∉ B → gB s' f = gB s f)
theorem Fx.refl (I L A B : List Nat) (s : S) : Fx I L A B s s := ⟨fun _ _ => rfl, fun _ _ => rfl, fun _ _ => rfl, fun _ _ => rfl⟩
theorem Fx.trans {I L A B : List Nat} {s t u : S} (h : Fx I L A B s t) (k : Fx I L A B t u) : Fx I L A B s u :=
  ⟨fun f q => (k.1 f q).trans (h.1 f q), fun f q => (k.2.1 f q).trans (h.2.1 f q), fun f q => (k.2.2.1 f q).trans (h.2.2.1 f q), fun f q => (k.2.2.2 f q).trans (h.2.2.2 f q)⟩
theorem Fx.mono {I L A B I' L' A' B' : List Nat} {s t : S} (h : Fx I L A B s t) (a : ∀ f ∈ I, f ∈ I') (b : ∀ f ∈ L, f ∈ L') (c : ∀ f ∈ A, f ∈ A') (d : ∀ f ∈ B, f ∈ B') : Fx I' L' A' B' s t :=
  ⟨fun f q => h.1 f fun x => q (a f x), fun f q => h.2.1 f fun x => q (b f x), fun f q => h.2.2.1 f fun x => q (c f x), fun f q => h.2.2.2 f fun x => q (d f x)⟩
theorem Fx.sA {I L A B : List Nat} {s t : S} {f : Nat} {l : List Int32} (h : Fx I L A B s t) (hf : f ∈ A) : Fx I L A B s (Jvm.AM.sA t f l) :=
  ⟨fun g q => (gI_sA _ _ _ _).trans (h.1 g q), fun g q => (gL_sA _ _ _ _).trans (h.2.1 g q), fun g q => by rw [gA_sA, if_neg (fun e : g = f => q (e ▸ hf))]; exact h.2.2.1 g q, fun g q => (gB_sA _ _ _ _).trans (h.2.2.2 g q)⟩
theorem Fx.sI {I L A B : List Nat} {s t : S} {f : Nat} {l : Int32} (h : Fx I L A B s t) (hf : f ∈ I) : Fx I L A B s (Jvm.AM.sI t f l) :=
  ⟨fun g q => by rw [gI_sI, if_neg (fun e : g = f => q (e ▸ hf))]; exact h.1 g q, fun g q => (gL_sI _ _ _ _).trans (h.2.1 g q), fun g q => (gA_sI _ _ _ _).trans (h.2.2.1 g q), fun g q => (gB_sI _ _ _ _).trans (h.2.2.2 g q)⟩
theorem Fx.sL {I L A B : List Nat} {s t : S} {f : Nat} {l : Int64} (h : Fx I L A B s t) (hf : f ∈ L) : Fx I L A B s (Jvm.AM.sL t f l) :=
  ⟨fun g q => (gI_sL _ _ _ _).trans (h.1 g q), fun g q => by rw [gL_sL, if_neg (fun e : g = f => q (e ▸ hf))]; exact h.2.1 g q, fun g q => (gA_sL _ _ _ _).trans (h.2.2.1 g q), fun g q => (gB_sL _ _ _ _).trans (h.2.2.2 g q)⟩
theorem Fx.sB {I L A B : List Nat} {s t : S} {f : Nat} {l : List Int64} (h : Fx I L A B s t) (hf : f ∈ B) : Fx I L A B s (Jvm.AM.sB t f l) :=
  ⟨fun g q => (gI_sB _ _ _ _).trans (h.1 g q), fun g q => (gL_sB _ _ _ _).trans (h.2.1 g q), fun g q => (gA_sB _ _ _ _).trans (h.2.2.1 g q), fun g q => by rw [gB_sB, if_neg (fun e : g = f => q (e ▸ hf))]; exact h.2.2.2 g q⟩
theorem ofNat_add' (a b : Nat) : Int32.ofNat a + Int32.ofNat b = Int32.ofNat (a + b) := (Int32.ofNat_add a b).symm
/-- the first k entries are x -/
def Upto {A : Type} (l : List A) (k : Nat) (x : A) : Prop := ∀ i, i < k → l[i]? = some x
theorem Upto.zero {A : Type} (l : List A) (x : A) : Upto l 0 x := fun _ h => absurd h (Nat.not_lt_zero _)
theorem Upto.set {A : Type} {l : List A} {k : Nat} {x : A} (h : Upto l k x) (hk : k < l.length) : Upto (l.set k x) (k + 1) x := fun i hi => by
  by_cases e : i = k
  · subst e; simp [hk]
  · rw [List.getElem?_set_ne (Ne.symm e)]; exact h i (by omega)
theorem Upto.all {A : Type} {l : List A} {k : Nat} {x : A} (h : Upto l k x) (hk : l.length = k) : l = rep k x := by
  apply List.ext_getElem?
  intro i
  rw [rep_get]
  by_cases q : i < k
  · rw [if_pos q]; exact h i q
  · rw [if_neg q, List.getElem?_eq_none (by omega)]
end Jvm.PL
namespace Jvm.PL
open Jvm.AM
/-- a loop by its invariant; m: the turns that are left -/
theorem run_loop {A B : Type} (L : Nat → A → B) (F : A → B) (I : Nat → A → Prop) (h : ∀ n m a, I (m + 1) a → ∃ a', L (n + 1) a = L n a' ∧ I m a') (h0 : ∀ n a, I 0 a → L (n + 1) a = F a) : ∀ m n a, m < n → I m a → ∃ a', L n a = F a' ∧ I 0 a'
  | 0, n + 1, a, _, i => ⟨a, h0 n a i, i⟩
  | m + 1, n + 1, a, q, i => by
    obtain ⟨a', e, i'⟩ := h n m a i
    obtain ⟨a'', e', i''⟩ := run_loop L F I h h0 m n a' (by omega) i'
    exact ⟨a'', e.trans e', i''⟩
/-- 'for k in 0 .. N' -/
theorem run_for {B : Type} (L : Nat → Int32 → S → B) (F : S → B) (N : Nat) (I : Nat → S → Prop) (h : ∀ n k s, k < N → I k s → ∃ s', L (n + 1) (Int32.ofNat k) s = L n (Int32.ofNat (k + 1)) s' ∧ I (k + 1) s') (h0 : ∀ n s, I N s → L (n + 1) (Int32.ofNat N) s = F s) (n : Nat) (s : S) (hn : N < n) (i : I 0 s) :
    ∃ s', L n (Int32.ofNat 0) s = F s' ∧ I N s' := by
  obtain ⟨a, e, k, hk, ea, ia⟩ := run_loop (fun n (a : Int32 × S) => L n a.1 a.2) (fun a => F a.2) (fun m a => ∃ k, k + m = N ∧ a.1 = Int32.ofNat k ∧ I k a.2)
    (fun n m a ⟨k, h1, h2, h3⟩ => by
      obtain ⟨s', e, i'⟩ := h n k a.2 (by omega) h3
      exact ⟨(Int32.ofNat (k + 1), s'), by show L (n + 1) a.1 a.2 = _; rw [h2]; exact e, k + 1, by omega, rfl, i'⟩)
    (fun n a ⟨k, h1, h2, h3⟩ => by
      have : k = N := by omega
      subst this
      show L (n + 1) a.1 a.2 = _; rw [h2]; exact h0 n a.2 h3) N n (Int32.ofNat 0, s) hn ⟨0, by omega, rfl, i⟩
  have : k = N := by omega
  subst this
  exact ⟨a.2, e, ia⟩
end Jvm.PL
namespace Jvm.PL
open Jvm.AM
/-- the end test of a loop over a script -/
theorem len_lt {n k c : Nat} (hn : n ≤ 100000) (hk : k ≤ 100000) (hc : c ≤ 100000) : (n.toInt32 - Int32.ofNat c) < Int32.ofNat k ↔ n < k + c := by
  rw [Int32.lt_iff_toInt_lt, Int32.toInt_sub, show n.toInt32 = Int32.ofNat n from rfl, ofNat_toInt (by omega), ofNat_toInt (by omega), ofNat_toInt (by omega)]
  have : ((n : Int) - c).bmod (2 ^ 32) = n - c := by
    rw [Int.bmod_eq_of_le] <;> omega
  rw [this]; omega
/-- a loop over a script, c entries a turn: it ends in what every way out says -/
theorem run_script {A B : Type} (L : Nat → Int32 → A → B) (c len : Nat) (hc : 0 < c) (P : B → Prop) (I : Nat → A → Prop) (h : ∀ n k a, k + c ≤ len → I k a → P (L (n + 1) (Int32.ofNat k) a) ∨ ∃ a', L (n + 1) (Int32.ofNat k) a = L n (Int32.ofNat (k + c)) a' ∧ I (k + c) a') (h0 : ∀ n k a, k ≤ len → len < k + c → I k a → P (L (n + 1) (Int32.ofNat k) a)) : ∀ n k a, len < n + k → k ≤ len → I k a → P (L n (Int32.ofNat k) a)
  | 0, k, a, hn, hk, i => by omega
  | n + 1, k, a, hn, hk, i => by
    by_cases q : k + c ≤ len
    · rcases h n k a q i with p | ⟨a', e, i'⟩
      · exact p
      · rw [e]; exact run_script L c len hc P I h h0 n (k + c) a' (by omega) q i'
    · exact h0 n k a hk (by omega) i
theorem ix_some {A : Type} (l : List A) {k : Nat} (hk : k < 2147483648) (hl : k < l.length) : ∃ x, ix l (Int32.ofNat k) = some x := ⟨l[k], by rw [ix_ofNat _ hk, List.getElem?_eq_getElem hl]⟩
theorem ofNat_lit (a b : Nat) : Int32.ofNat a + (OfNat.ofNat b : Int32) = Int32.ofNat (a + b) := ofNat_add' a b
end Jvm.PL
namespace Jvm.PL
open Jvm.AM
theorem upd_same {A : Type} (g : Nat → A) (f : Nat) (a b : A) : aupd (aupd g f a) f b = aupd g f b := by
  funext x; unfold aupd; by_cases q : x = f <;> simp [q]
theorem upd_comm {A : Type} (g : Nat → A) {f h : Nat} (n : f ≠ h) (a b : A) : aupd (aupd g f a) h b = aupd (aupd g h b) f a := by
  funext x; unfold aupd
  by_cases q : x = f
  · have : ¬ f = h := n
    simp [q, this]
  · by_cases r : x = h
    · rw [if_pos r, if_neg q, if_pos r]
    · rw [if_neg r, if_neg q, if_neg q, if_neg r]
theorem sA_same (s : S) (f : Nat) (a b : List Int32) : Jvm.AM.sA (Jvm.AM.sA s f a) f b = Jvm.AM.sA s f b := by
  unfold Jvm.AM.sA; simp only [upd_same]
theorem sA_comm (s : S) {f h : Nat} (n : f ≠ h) (a b : List Int32) : Jvm.AM.sA (Jvm.AM.sA s f a) h b = Jvm.AM.sA (Jvm.AM.sA s h b) f a := by
  unfold Jvm.AM.sA; simp only; rw [upd_comm _ n]
end Jvm.PL
/-! ## rows of bits -/
namespace Jvm.PL
open Jvm.AM Jvm.Free
def bt (w : Int32) (y : Nat) : Bool := w.toBitVec.getLsbD y
theorem bt_zero (y : Nat) : bt 0 y = false := by simp [bt]
theorem bt_or (a b : Int32) (y : Nat) : bt (a ||| b) y = (bt a y || bt b y) := by simp [bt]
theorem bt_and (a b : Int32) (y : Nat) : bt (a &&& b) y = (bt a y && bt b y) := by simp [bt]
theorem bt_ge (w : Int32) {y : Nat} (h : 32 ≤ y) : bt w y = false := by unfold bt; exact BitVec.getLsbD_of_ge _ _ h
theorem bt_m1 {y : Nat} (h : y < 32) : bt (-1) y = true := by
  unfold bt
  rw [show (-1 : Int32).toBitVec = BitVec.allOnes 32 from rfl, BitVec.getLsbD_allOnes]
  simp [h]
theorem bt_not (a : Int32) {y : Nat} (h : y < 32) : bt (a ^^^ (-1)) y = !bt a y := by
  have := bt_m1 h
  unfold bt at *
  rw [Int32.toBitVec_xor, BitVec.getLsbD_xor, this]; simp
theorem bt_andn (a b : Int32) (y : Nat) : bt (a &&& (b ^^^ (-1))) y = (bt a y && !bt b y) := by
  rw [bt_and]
  by_cases h : y < 32
  · rw [bt_not b h]
  · rw [bt_ge a (by omega)]; simp
theorem bt_ext {a b : Int32} (h : ∀ y, y < 32 → bt a y = bt b y) : a = b := by
  apply Int32.toBitVec_inj.mp
  apply BitVec.eq_of_getLsbD_eq
  intro i hi
  exact h i hi
theorem bt_eq0 {w : Int32} : w = 0 ↔ ∀ y, y < 32 → bt w y = false := by
  constructor
  · rintro rfl y _; exact bt_zero y
  · intro h; exact bt_ext fun y hy => by rw [h y hy, bt_zero]
theorem ushr_bit (w : Int32) {y : Nat} (hy : y < 32) : (XT.ushr w (Int32.ofNat y)).toBitVec = w.toBitVec >>> y := by
  unfold XT.ushr
  have h1 : ((Int32.ofNat y &&& 31).toUInt32.toBitVec).toNat = y := by
    show ((Int32.ofNat y &&& 31).toBitVec).toNat = y
    rw [Int32.toBitVec_and, BitVec.toNat_and]
    have e1 : (Int32.ofNat y).toBitVec.toNat = y := by
      show (BitVec.ofNat 32 y).toNat = y
      rw [BitVec.toNat_ofNat]; omega
    have e2 : (31 : Int32).toBitVec.toNat = 31 := rfl
    rw [e1, e2, show 31 = 2 ^ 5 - 1 from rfl, Nat.and_two_pow_sub_one_eq_mod]; omega
  show (w.toUInt32 >>> (Int32.ofNat y &&& 31).toUInt32).toBitVec = _
  rw [UInt32.toBitVec_shiftRight]
  show w.toBitVec >>> ((Int32.ofNat y &&& 31).toUInt32.toBitVec % 32) = _
  rw [BitVec.ushiftRight_eq']
  congr 1
  rw [BitVec.toNat_umod, h1]
  show y % 32 = y
  omega
theorem and1 (w : Int32) : (w &&& 1 = 0) ↔ bt w 0 = false := by
  constructor
  · intro h
    have : bt (w &&& 1) 0 = false := by rw [h, bt_zero]
    rw [bt_and] at this
    simpa [show bt 1 0 = true from rfl] using this
  · intro h
    refine bt_ext fun y hy => ?_
    rw [bt_and, bt_zero]
    cases y with
    | zero => rw [h]; rfl
    | succ y =>
      have : bt 1 (y + 1) = false := by
        unfold bt
        show (1#32).getLsbD (y + 1) = false
        simp [BitVec.getLsbD_one]
      rw [this]; simp
theorem test_bit (w : Int32) {y : Nat} (hy : y < 32) : (XT.ushr w (Int32.ofNat y) &&& 1 = 0) ↔ bt w y = false := by
  rw [and1]
  unfold bt
  rw [ushr_bit w hy]; simp
theorem shl_bit {b : Nat} (hb : b < 32) (y : Nat) : bt ((1 : Int32) <<< (Int32.ofNat b &&& 31)) y = decide (y = b) := by
  have h1 : (Int32.ofNat b &&& 31) = Int32.ofNat b := by
    apply Int32.toBitVec_inj.mp
    rw [Int32.toBitVec_and]
    apply BitVec.eq_of_toNat_eq
    rw [BitVec.toNat_and]
    have e1 : (Int32.ofNat b).toBitVec.toNat = b := by
      show (BitVec.ofNat 32 b).toNat = b
      rw [BitVec.toNat_ofNat]; omega
    have e2 : (31 : Int32).toBitVec.toNat = 31 := rfl
    rw [e1, e2, show 31 = 2 ^ 5 - 1 from rfl, Nat.and_two_pow_sub_one_eq_mod]; omega
  rw [h1]
  unfold bt
  have e : ((1 : Int32) <<< Int32.ofNat b).toBitVec = (1#32) <<< b := by
    rw [Int32.toBitVec_shiftLeft]
    show (1#32) <<< ((Int32.ofNat b).toBitVec.smod 32) = _
    have : (Int32.ofNat b).toBitVec.smod 32 = BitVec.ofNat 32 b := by
      have hz : ∀ b : Fin 32, (Int32.ofNat b.val).toBitVec.smod 32 = BitVec.ofNat 32 b.val := by decide
      exact hz ⟨b, hb⟩
    rw [this, BitVec.shiftLeft_eq']
    congr 1
    rw [BitVec.toNat_ofNat]; omega
  rw [e]
  simp only [BitVec.getLsbD_shiftLeft, BitVec.getLsbD_one]
  by_cases h : y = b
  · subst h; simp [hb]
  · simp [h]; omega
end Jvm.PL
namespace Jvm.Pilot.@@N@@
open Jvm Jvm.ClassFile Sem Op Lib Jvm.Free Jvm.Stand Jvm.LawKit Jvm.RoadKit Jvm.AM Jvm.PL Jvm.Pilot.@@N@@.Jvm.D
def ci1 : CI := ("PageCompactorY", 19, [("frameTotal", "I", .int), ("pageTotal", "I", .int), ("freeSet", "J", .long), ("mappedSet", "J", .long), ("pinnedSet", "J", .long), ("reservedSet", "J", .long), ("runsStale", "Z", .boolean), ("scanLimit", "I", .int), ("scanMoved", "I", .int), ("scanMigrate", "I", .int), ("scanFree", "I", .int)], [("frameStates", "[B", .byte, 64), ("frameValues", "[I", .int, 64), ("frameCounts", "[I", .int, 64), ("pageFrame", "[I", .int, 64), ("rmapHead", "[I", .int, 64), ("rmapNext", "[I", .int, 64), ("rmapPrev", "[I", .int, 64), ("runSet", "[J", .long, 7)])
def PP : PI := (tables_1, ci1)
def BIG : Nat := 1000000
def m0 : Meth := (⟨"PageCompactorYOwnLaw", "cell", "([II)I"⟩, method_2_code, 2, (some .int), { frames := 0, cells := 0, slots := 0, locals := 0 }, 2, false, 0, 0)
def m1 : Meth := (⟨"PageCompactorYOwnLaw", "mod", "(II)I"⟩, method_3_code, 3, (some .int), { frames := 0, cells := 0, slots := 0, locals := 0 }, 2, false, 0, 0)
def m2 : Meth := (⟨"PageCompactorY", "clampInt", "(III)I"⟩, prog_1_method_18_code, 4, (some .int), { frames := 0, cells := 0, slots := 0, locals := 0 }, 1, false, 0, 0)
def m3 : Meth := (⟨"PageCompactorY", "lowMask", "(I)J"⟩, prog_1_method_42_code, 2, (some .long), { frames := 0, cells := 0, slots := 0, locals := 0 }, 1, false, 0, 0)
def m4 : Meth := (⟨"PageCompactorY", "resetAll", "()V"⟩, prog_1_method_24_code, 2, none, { frames := 1, cells := 0, slots := 0, locals := 14 }, 1, false, 0, 0)
def m5 : Meth := (⟨"PageCompactorY", "<init>", "(II)V"⟩, prog_1_method_1_code, 3, none, { frames := 2, cells := 8, slots := 455, locals := 27 }, 1, true, 1, 19)
def m6 : Meth := (⟨"PageCompactorY", "pageInRange", "(II)Z"⟩, prog_1_method_19_code, 3, (some .boolean), { frames := 0, cells := 0, slots := 0, locals := 0 }, 1, false, 0, 0)
def m7 : Meth := (⟨"PageCompactorY", "slotOf", "(II)I"⟩, prog_1_method_21_code, 3, (some .int), { frames := 0, cells := 0, slots := 0, locals := 0 }, 1, false, 0, 0)
def m8 : Meth := (⟨"PageCompactorY", "checkTarget", "(II)I"⟩, prog_1_method_22_code, 4, (some .int), { frames := 1, cells := 0, slots := 0, locals := 14 }, 1, false, 0, 0)
def m9 : Meth := (⟨"PageCompactorY", "lowestBit", "(J)I"⟩, prog_1_method_44_code, 6, (some .int), { frames := 0, cells := 0, slots := 0, locals := 0 }, 1, false, 0, 0)
def m10 : Meth := (⟨"PageCompactorY", "frameInRange", "(I)Z"⟩, prog_1_method_20_code, 2, (some .boolean), { frames := 0, cells := 0, slots := 0, locals := 0 }, 1, false, 0, 0)
def m11 : Meth := (⟨"PageCompactorY", "bitOf", "(I)J"⟩, prog_1_method_41_code, 2, (some .long), { frames := 0, cells := 0, slots := 0, locals := 0 }, 1, false, 0, 0)
def m12 : Meth := (⟨"PageCompactorY", "enterState", "(II)V"⟩, prog_1_method_25_code, 5, none, { frames := 1, cells := 0, slots := 0, locals := 13 }, 1, false, 0, 0)
def m13 : Meth := (⟨"PageCompactorY", "rmapLink", "(II)V"⟩, prog_1_method_31_code, 4, none, { frames := 0, cells := 0, slots := 0, locals := 0 }, 1, false, 0, 0)
def m14 : Meth := (⟨"PageCompactorY", "attachPage", "(II)V"⟩, prog_1_method_29_code, 3, none, { frames := 1, cells := 0, slots := 0, locals := 15 }, 1, false, 0, 0)
def m15 : Meth := (⟨"PageCompactorY", "mapNew", "(III)I"⟩, prog_1_method_2_code, 7, (some .int), { frames := 2, cells := 0, slots := 0, locals := 29 }, 1, false, 0, 0)
def m16 : Meth := (⟨"PageCompactorY", "share", "(IIII)I"⟩, prog_1_method_3_code, 8, (some .int), { frames := 2, cells := 0, slots := 0, locals := 29 }, 1, false, 0, 0)
def m17 : Meth := (⟨"PageCompactorY", "rmapUnlink", "(I)I"⟩, prog_1_method_32_code, 5, (some .int), { frames := 0, cells := 0, slots := 0, locals := 0 }, 1, false, 0, 0)
def m18 : Meth := (⟨"PageCompactorY", "detachPage", "(I)I"⟩, prog_1_method_30_code, 3, (some .int), { frames := 1, cells := 0, slots := 0, locals := 16 }, 1, false, 0, 0)
def m19 : Meth := (⟨"PageCompactorY", "freeFrame", "(I)V"⟩, prog_1_method_26_code, 2, none, { frames := 2, cells := 0, slots := 0, locals := 29 }, 1, false, 0, 0)
def m20 : Meth := (⟨"PageCompactorY", "unmap", "(II)I"⟩, prog_1_method_4_code, 5, (some .int), { frames := 3, cells := 0, slots := 0, locals := 42 }, 1, false, 0, 0)
def m21 : Meth := (⟨"PageCompactorY", "mappedFrame", "(II)I"⟩, prog_1_method_23_code, 5, (some .int), { frames := 1, cells := 0, slots := 0, locals := 14 }, 1, false, 0, 0)
def m22 : Meth := (⟨"PageCompactorY", "write", "(III)Z"⟩, prog_1_method_5_code, 5, (some .boolean), { frames := 2, cells := 0, slots := 0, locals := 30 }, 1, false, 0, 0)
def m23 : Meth := (⟨"PageCompactorY", "frameOf", "(II)I"⟩, prog_1_method_7_code, 4, (some .int), { frames := 2, cells := 0, slots := 0, locals := 30 }, 1, false, 0, 0)
def m24 : Meth := (⟨"PageCompactorY", "pin", "(I)Z"⟩, prog_1_method_8_code, 2, (some .boolean), { frames := 2, cells := 0, slots := 0, locals := 29 }, 1, false, 0, 0)
def m25 : Meth := (⟨"PageCompactorY", "unpin", "(I)Z"⟩, prog_1_method_9_code, 2, (some .boolean), { frames := 2, cells := 0, slots := 0, locals := 29 }, 1, false, 0, 0)
def m26 : Meth := (⟨"PageCompactorY", "release", "(I)Z"⟩, prog_1_method_11_code, 2, (some .boolean), { frames := 3, cells := 0, slots := 0, locals := 42 }, 1, false, 0, 0)
def m27 : Meth := (⟨"PageCompactorY", "alignMask", "(I)J"⟩, prog_1_method_36_code, 2, (some .long), { frames := 0, cells := 0, slots := 0, locals := 0 }, 1, false, 0, 0)
def m28 : Meth := (⟨"PageCompactorY", "refreshRuns", "()V"⟩, prog_1_method_35_code, 7, none, { frames := 1, cells := 0, slots := 0, locals := 13 }, 1, false, 0, 0)
def m29 : Meth := (⟨"PageCompactorY", "freeRunsOfOrder", "(I)J"⟩, prog_1_method_34_code, 2, (some .long), { frames := 2, cells := 0, slots := 0, locals := 31 }, 1, false, 0, 0)
def m30 : Meth := (⟨"PageCompactorY", "reserveFrame", "(I)V"⟩, prog_1_method_27_code, 2, none, { frames := 2, cells := 0, slots := 0, locals := 29 }, 1, false, 0, 0)
def m31 : Meth := (⟨"PageCompactorY", "reserveRun", "(II)V"⟩, prog_1_method_28_code, 5, none, { frames := 3, cells := 0, slots := 0, locals := 42 }, 1, false, 0, 0)
def m32 : Meth := (⟨"PageCompactorY", "allocBlock", "(I)I"⟩, prog_1_method_10_code, 5, (some .int), { frames := 4, cells := 0, slots := 0, locals := 58 }, 1, false, 0, 0)
def m33 : Meth := (⟨"PageCompactorY", "rangeMask", "(II)J"⟩, prog_1_method_43_code, 7, (some .long), { frames := 1, cells := 0, slots := 0, locals := 13 }, 1, false, 0, 0)
def m34 : Meth := (⟨"PageCompactorY", "advanceMigrateScanner", "()V"⟩, prog_1_method_37_code, 5, none, { frames := 2, cells := 0, slots := 0, locals := 31 }, 1, false, 0, 0)
def m35 : Meth := (⟨"PageCompactorY", "highestBit", "(J)I"⟩, prog_1_method_45_code, 6, (some .int), { frames := 0, cells := 0, slots := 0, locals := 0 }, 1, false, 0, 0)
def m36 : Meth := (⟨"PageCompactorY", "retreatFreeScanner", "()V"⟩, prog_1_method_38_code, 5, none, { frames := 2, cells := 0, slots := 0, locals := 31 }, 1, false, 0, 0)
def m37 : Meth := (⟨"PageCompactorY", "scannersDone", "()Z"⟩, prog_1_method_39_code, 1, (some .boolean), { frames := 0, cells := 0, slots := 0, locals := 0 }, 1, false, 0, 0)
def m38 : Meth := (⟨"PageCompactorY", "rmapTransfer", "(II)V"⟩, prog_1_method_33_code, 5, none, { frames := 0, cells := 0, slots := 0, locals := 0 }, 1, false, 0, 0)
def m39 : Meth := (⟨"PageCompactorY", "migrateFrame", "(II)V"⟩, prog_1_method_40_code, 5, none, { frames := 3, cells := 0, slots := 0, locals := 42 }, 1, false, 0, 0)
def m40 : Meth := (⟨"PageCompactorY", "compact", "(I)I"⟩, prog_1_method_12_code, 3, (some .int), { frames := 4, cells := 0, slots := 0, locals := 58 }, 1, false, 0, 0)
def m41 : Meth := (⟨"PageCompactorYOwnLaw", "apply", "(LPageCompactorY;IIIIII)V"⟩, method_4_code, 10, none, { frames := 5, cells := 0, slots := 0, locals := 74 }, 2, false, 0, 0)
def m42 : Meth := (⟨"PageCompactorY", "bitCount", "(J)I"⟩, prog_1_method_46_code, 5, (some .int), { frames := 0, cells := 0, slots := 0, locals := 0 }, 1, false, 0, 0)
def m43 : Meth := (⟨"PageCompactorY", "freeCount", "()I"⟩, prog_1_method_16_code, 1, (some .int), { frames := 1, cells := 0, slots := 0, locals := 16 }, 1, false, 0, 0)
def m44 : Meth := (⟨"PageCompactorY", "read", "(II)I"⟩, prog_1_method_6_code, 4, (some .int), { frames := 2, cells := 0, slots := 0, locals := 30 }, 1, false, 0, 0)
def m45 : Meth := (⟨"PageCompactorY", "frameState", "(I)I"⟩, prog_1_method_13_code, 2, (some .int), { frames := 1, cells := 0, slots := 0, locals := 13 }, 1, false, 0, 0)
def m46 : Meth := (⟨"PageCompactorY", "frameValue", "(I)I"⟩, prog_1_method_14_code, 3, (some .int), { frames := 1, cells := 0, slots := 0, locals := 13 }, 1, false, 0, 0)
def m47 : Meth := (⟨"PageCompactorY", "mapCount", "(I)I"⟩, prog_1_method_15_code, 2, (some .int), { frames := 1, cells := 0, slots := 0, locals := 13 }, 1, false, 0, 0)
def m48 : Meth := (x, code, maxLocals, ret, room_1, 2, true, 0, 0)
theorem ar_0 : (cA PP.2)[0]? = some ("frameStates", "[B", .byte, 64) := rfl
theorem ar_1 : (cA PP.2)[1]? = some ("frameValues", "[I", .int, 64) := rfl
theorem ar_2 : (cA PP.2)[2]? = some ("frameCounts", "[I", .int, 64) := rfl
theorem ar_3 : (cA PP.2)[3]? = some ("pageFrame", "[I", .int, 64) := rfl
theorem ar_4 : (cA PP.2)[4]? = some ("rmapHead", "[I", .int, 64) := rfl
theorem ar_5 : (cA PP.2)[5]? = some ("rmapNext", "[I", .int, 64) := rfl
theorem ar_6 : (cA PP.2)[6]? = some ("rmapPrev", "[I", .int, 64) := rfl
theorem ar_7 : (cA PP.2)[7]? = some ("runSet", "[J", .long, 7) := rfl
theorem fa_7 : FldA PP 7 0 .byte := ⟨_, _, _, rfl, List.mem_of_getElem? (i := 17) rfl⟩
theorem fa_13 : FldA PP 13 1 .int := ⟨_, _, _, rfl, List.mem_of_getElem? (i := 20) rfl⟩
theorem fa_17 : FldA PP 17 2 .int := ⟨_, _, _, rfl, List.mem_of_getElem? (i := 22) rfl⟩
theorem fa_20 : FldA PP 20 3 .int := ⟨_, _, _, rfl, List.mem_of_getElem? (i := 24) rfl⟩
theorem fa_23 : FldA PP 23 4 .int := ⟨_, _, _, rfl, List.mem_of_getElem? (i := 26) rfl⟩
theorem fa_26 : FldA PP 26 5 .int := ⟨_, _, _, rfl, List.mem_of_getElem? (i := 28) rfl⟩
theorem fa_29 : FldA PP 29 6 .int := ⟨_, _, _, rfl, List.mem_of_getElem? (i := 30) rfl⟩
theorem fa_32 : FldA PP 32 7 .long := ⟨_, _, _, rfl, List.mem_of_getElem? (i := 33) rfl⟩
theorem fs_40 : FldS PP 40 0 .int := ⟨_, _, rfl, List.mem_of_getElem? (i := 39) rfl⟩
theorem fs_44 : FldS PP 44 1 .int := ⟨_, _, rfl, List.mem_of_getElem? (i := 41) rfl⟩
theorem fs_54 : FldS PP 54 2 .long := ⟨_, _, rfl, List.mem_of_getElem? (i := 51) rfl⟩
theorem fs_98 : FldS PP 98 7 .int := ⟨_, _, rfl, List.mem_of_getElem? (i := 138) rfl⟩
theorem fs_101 : FldS PP 101 8 .int := ⟨_, _, rfl, List.mem_of_getElem? (i := 140) rfl⟩
theorem fs_104 : FldS PP 104 9 .int := ⟨_, _, rfl, List.mem_of_getElem? (i := 142) rfl⟩
theorem fs_107 : FldS PP 107 10 .int := ⟨_, _, rfl, List.mem_of_getElem? (i := 144) rfl⟩
theorem fs_132 : FldS PP 132 3 .long := ⟨_, _, rfl, List.mem_of_getElem? (i := 53) rfl⟩
theorem fs_135 : FldS PP 135 4 .long := ⟨_, _, rfl, List.mem_of_getElem? (i := 55) rfl⟩
theorem fs_138 : FldS PP 138 5 .long := ⟨_, _, rfl, List.mem_of_getElem? (i := 57) rfl⟩
theorem fs_141 : FldS PP 141 6 .boolean := ⟨_, _, rfl, List.mem_of_getElem? (i := 59) rfl⟩
theorem wr_0 (M : Meth) : Wrt PP M 0 := ⟨_, _, _, rfl, Or.inl (List.mem_of_getElem? (i := 40) rfl)⟩
theorem wr_1 (M : Meth) : Wrt PP M 1 := ⟨_, _, _, rfl, Or.inl (List.mem_of_getElem? (i := 42) rfl)⟩
theorem wr_2 (M : Meth) : Wrt PP M 2 := ⟨_, _, _, rfl, Or.inl (List.mem_of_getElem? (i := 52) rfl)⟩
theorem wr_3 (M : Meth) : Wrt PP M 3 := ⟨_, _, _, rfl, Or.inl (List.mem_of_getElem? (i := 54) rfl)⟩
theorem wr_4 (M : Meth) : Wrt PP M 4 := ⟨_, _, _, rfl, Or.inl (List.mem_of_getElem? (i := 56) rfl)⟩
theorem wr_5 (M : Meth) : Wrt PP M 5 := ⟨_, _, _, rfl, Or.inl (List.mem_of_getElem? (i := 58) rfl)⟩
theorem wr_6 (M : Meth) : Wrt PP M 6 := ⟨_, _, _, rfl, Or.inl (List.mem_of_getElem? (i := 60) rfl)⟩
theorem wr_7 (M : Meth) : Wrt PP M 7 := ⟨_, _, _, rfl, Or.inl (List.mem_of_getElem? (i := 139) rfl)⟩
theorem wr_8 (M : Meth) : Wrt PP M 8 := ⟨_, _, _, rfl, Or.inl (List.mem_of_getElem? (i := 141) rfl)⟩
theorem wr_9 (M : Meth) : Wrt PP M 9 := ⟨_, _, _, rfl, Or.inl (List.mem_of_getElem? (i := 143) rfl)⟩
theorem wr_10 (M : Meth) : Wrt PP M 10 := ⟨_, _, _, rfl, Or.inl (List.mem_of_getElem? (i := 145) rfl)⟩
theorem oid_0 : 1 = (cK PP.2 + 1) * 0 + 1 := rfl
theorem oid_1 : 10 = (cK PP.2 + 1) * 1 + 1 := rfl
theorem pl_0 : plainName "PageCompactorY" = true := by first | (simp [plainName, overriddenIn]; done) | decide +kernel
theorem pl_1 : plainName "PageCompactorYOwnLaw" = true := by first | (simp [plainName, overriddenIn]; done) | decide +kernel
theorem hn_0 : 0 < mN m0 := by decide
theorem pd_0 : parseMethodDescriptor (mY m0).desc = some ⟨[.array .int, .int], (some .int)⟩ := by decide +kernel
theorem hn_1 : 0 < mN m1 := by decide
theorem pd_1 : parseMethodDescriptor (mY m1).desc = some ⟨[.int, .int], (some .int)⟩ := by decide +kernel
theorem hm_2 : (mY m2).cls = cN PP.2 := rfl
theorem hn_2 : 0 < mN m2 := by decide
theorem pd_2 : parseMethodDescriptor (mY m2).desc = some ⟨[.int, .int, .int], (some .int)⟩ := by decide +kernel
theorem hm_3 : (mY m3).cls = cN PP.2 := rfl
theorem hn_3 : 0 < mN m3 := by decide
theorem pd_3 : parseMethodDescriptor (mY m3).desc = some ⟨[.int], (some .long)⟩ := by decide +kernel
theorem hm_4 : (mY m4).cls = cN PP.2 := rfl
theorem hn_4 : 0 < mN m4 := by decide
theorem pd_4 : parseMethodDescriptor (mY m4).desc = some ⟨[], none⟩ := by decide +kernel
theorem hm_5 : (mY m5).cls = cN PP.2 := rfl
theorem hn_5 : 0 < mN m5 := by decide
theorem pd_5 : parseMethodDescriptor (mY m5).desc = some ⟨[.int, .int], none⟩ := by decide +kernel
theorem hm_6 : (mY m6).cls = cN PP.2 := rfl
theorem hn_6 : 0 < mN m6 := by decide
theorem pd_6 : parseMethodDescriptor (mY m6).desc = some ⟨[.int, .int], (some .boolean)⟩ := by decide +kernel
theorem hm_7 : (mY m7).cls = cN PP.2 := rfl
theorem hn_7 : 0 < mN m7 := by decide
theorem pd_7 : parseMethodDescriptor (mY m7).desc = some ⟨[.int, .int], (some .int)⟩ := by decide +kernel
theorem hm_8 : (mY m8).cls = cN PP.2 := rfl
theorem hn_8 : 0 < mN m8 := by decide
theorem pd_8 : parseMethodDescriptor (mY m8).desc = some ⟨[.int, .int], (some .int)⟩ := by decide +kernel
theorem hm_9 : (mY m9).cls = cN PP.2 := rfl
theorem hn_9 : 0 < mN m9 := by decide
theorem pd_9 : parseMethodDescriptor (mY m9).desc = some ⟨[.long], (some .int)⟩ := by decide +kernel
theorem hm_10 : (mY m10).cls = cN PP.2 := rfl
theorem hn_10 : 0 < mN m10 := by decide
theorem pd_10 : parseMethodDescriptor (mY m10).desc = some ⟨[.int], (some .boolean)⟩ := by decide +kernel
theorem hm_11 : (mY m11).cls = cN PP.2 := rfl
theorem hn_11 : 0 < mN m11 := by decide
theorem pd_11 : parseMethodDescriptor (mY m11).desc = some ⟨[.int], (some .long)⟩ := by decide +kernel
theorem hm_12 : (mY m12).cls = cN PP.2 := rfl
theorem hn_12 : 0 < mN m12 := by decide
theorem pd_12 : parseMethodDescriptor (mY m12).desc = some ⟨[.int, .int], none⟩ := by decide +kernel
theorem hm_13 : (mY m13).cls = cN PP.2 := rfl
theorem hn_13 : 0 < mN m13 := by decide
theorem pd_13 : parseMethodDescriptor (mY m13).desc = some ⟨[.int, .int], none⟩ := by decide +kernel
theorem hm_14 : (mY m14).cls = cN PP.2 := rfl
theorem hn_14 : 0 < mN m14 := by decide
theorem pd_14 : parseMethodDescriptor (mY m14).desc = some ⟨[.int, .int], none⟩ := by decide +kernel
theorem hm_15 : (mY m15).cls = cN PP.2 := rfl
theorem hn_15 : 0 < mN m15 := by decide
theorem pd_15 : parseMethodDescriptor (mY m15).desc = some ⟨[.int, .int, .int], (some .int)⟩ := by decide +kernel
theorem hm_16 : (mY m16).cls = cN PP.2 := rfl
theorem hn_16 : 0 < mN m16 := by decide
theorem pd_16 : parseMethodDescriptor (mY m16).desc = some ⟨[.int, .int, .int, .int], (some .int)⟩ := by decide +kernel
theorem hm_17 : (mY m17).cls = cN PP.2 := rfl
theorem hn_17 : 0 < mN m17 := by decide
theorem pd_17 : parseMethodDescriptor (mY m17).desc = some ⟨[.int], (some .int)⟩ := by decide +kernel
theorem hm_18 : (mY m18).cls = cN PP.2 := rfl
theorem hn_18 : 0 < mN m18 := by decide
theorem pd_18 : parseMethodDescriptor (mY m18).desc = some ⟨[.int], (some .int)⟩ := by decide +kernel
theorem hm_19 : (mY m19).cls = cN PP.2 := rfl
theorem hn_19 : 0 < mN m19 := by decide
theorem pd_19 : parseMethodDescriptor (mY m19).desc = some ⟨[.int], none⟩ := by decide +kernel
theorem hm_20 : (mY m20).cls = cN PP.2 := rfl
theorem hn_20 : 0 < mN m20 := by decide
theorem pd_20 : parseMethodDescriptor (mY m20).desc = some ⟨[.int, .int], (some .int)⟩ := by decide +kernel
theorem hm_21 : (mY m21).cls = cN PP.2 := rfl
theorem hn_21 : 0 < mN m21 := by decide
theorem pd_21 : parseMethodDescriptor (mY m21).desc = some ⟨[.int, .int], (some .int)⟩ := by decide +kernel
theorem hm_22 : (mY m22).cls = cN PP.2 := rfl
theorem hn_22 : 0 < mN m22 := by decide
theorem pd_22 : parseMethodDescriptor (mY m22).desc = some ⟨[.int, .int, .int], (some .boolean)⟩ := by decide +kernel
theorem hm_23 : (mY m23).cls = cN PP.2 := rfl
theorem hn_23 : 0 < mN m23 := by decide
theorem pd_23 : parseMethodDescriptor (mY m23).desc = some ⟨[.int, .int], (some .int)⟩ := by decide +kernel
theorem hm_24 : (mY m24).cls = cN PP.2 := rfl
theorem hn_24 : 0 < mN m24 := by decide
theorem pd_24 : parseMethodDescriptor (mY m24).desc = some ⟨[.int], (some .boolean)⟩ := by decide +kernel
theorem hm_25 : (mY m25).cls = cN PP.2 := rfl
theorem hn_25 : 0 < mN m25 := by decide
theorem pd_25 : parseMethodDescriptor (mY m25).desc = some ⟨[.int], (some .boolean)⟩ := by decide +kernel
theorem hm_26 : (mY m26).cls = cN PP.2 := rfl
theorem hn_26 : 0 < mN m26 := by decide
theorem pd_26 : parseMethodDescriptor (mY m26).desc = some ⟨[.int], (some .boolean)⟩ := by decide +kernel
theorem hm_27 : (mY m27).cls = cN PP.2 := rfl
theorem hn_27 : 0 < mN m27 := by decide
theorem pd_27 : parseMethodDescriptor (mY m27).desc = some ⟨[.int], (some .long)⟩ := by decide +kernel
theorem hm_28 : (mY m28).cls = cN PP.2 := rfl
theorem hn_28 : 0 < mN m28 := by decide
theorem pd_28 : parseMethodDescriptor (mY m28).desc = some ⟨[], none⟩ := by decide +kernel
theorem hm_29 : (mY m29).cls = cN PP.2 := rfl
theorem hn_29 : 0 < mN m29 := by decide
theorem pd_29 : parseMethodDescriptor (mY m29).desc = some ⟨[.int], (some .long)⟩ := by decide +kernel
theorem hm_30 : (mY m30).cls = cN PP.2 := rfl
theorem hn_30 : 0 < mN m30 := by decide
theorem pd_30 : parseMethodDescriptor (mY m30).desc = some ⟨[.int], none⟩ := by decide +kernel
theorem hm_31 : (mY m31).cls = cN PP.2 := rfl
theorem hn_31 : 0 < mN m31 := by decide
theorem pd_31 : parseMethodDescriptor (mY m31).desc = some ⟨[.int, .int], none⟩ := by decide +kernel
theorem hm_32 : (mY m32).cls = cN PP.2 := rfl
theorem hn_32 : 0 < mN m32 := by decide
theorem pd_32 : parseMethodDescriptor (mY m32).desc = some ⟨[.int], (some .int)⟩ := by decide +kernel
theorem hm_33 : (mY m33).cls = cN PP.2 := rfl
theorem hn_33 : 0 < mN m33 := by decide
theorem pd_33 : parseMethodDescriptor (mY m33).desc = some ⟨[.int, .int], (some .long)⟩ := by decide +kernel
theorem hm_34 : (mY m34).cls = cN PP.2 := rfl
theorem hn_34 : 0 < mN m34 := by decide
theorem pd_34 : parseMethodDescriptor (mY m34).desc = some ⟨[], none⟩ := by decide +kernel
theorem hm_35 : (mY m35).cls = cN PP.2 := rfl
theorem hn_35 : 0 < mN m35 := by decide
theorem pd_35 : parseMethodDescriptor (mY m35).desc = some ⟨[.long], (some .int)⟩ := by decide +kernel
theorem hm_36 : (mY m36).cls = cN PP.2 := rfl
theorem hn_36 : 0 < mN m36 := by decide
theorem pd_36 : parseMethodDescriptor (mY m36).desc = some ⟨[], none⟩ := by decide +kernel
theorem hm_37 : (mY m37).cls = cN PP.2 := rfl
theorem hn_37 : 0 < mN m37 := by decide
theorem pd_37 : parseMethodDescriptor (mY m37).desc = some ⟨[], (some .boolean)⟩ := by decide +kernel
theorem hm_38 : (mY m38).cls = cN PP.2 := rfl
theorem hn_38 : 0 < mN m38 := by decide
theorem pd_38 : parseMethodDescriptor (mY m38).desc = some ⟨[.int, .int], none⟩ := by decide +kernel
theorem hm_39 : (mY m39).cls = cN PP.2 := rfl
theorem hn_39 : 0 < mN m39 := by decide
theorem pd_39 : parseMethodDescriptor (mY m39).desc = some ⟨[.int, .int], none⟩ := by decide +kernel
theorem hm_40 : (mY m40).cls = cN PP.2 := rfl
theorem hn_40 : 0 < mN m40 := by decide
theorem pd_40 : parseMethodDescriptor (mY m40).desc = some ⟨[.int], (some .int)⟩ := by decide +kernel
theorem hn_41 : 0 < mN m41 := by decide
theorem pd_41 : parseMethodDescriptor (mY m41).desc = some ⟨[.object "PageCompactorY", .int, .int, .int, .int, .int, .int], none⟩ := by decide +kernel
theorem hm_42 : (mY m42).cls = cN PP.2 := rfl
theorem hn_42 : 0 < mN m42 := by decide
theorem pd_42 : parseMethodDescriptor (mY m42).desc = some ⟨[.long], (some .int)⟩ := by decide +kernel
theorem hm_43 : (mY m43).cls = cN PP.2 := rfl
theorem hn_43 : 0 < mN m43 := by decide
theorem pd_43 : parseMethodDescriptor (mY m43).desc = some ⟨[], (some .int)⟩ := by decide +kernel
theorem hm_44 : (mY m44).cls = cN PP.2 := rfl
theorem hn_44 : 0 < mN m44 := by decide
theorem pd_44 : parseMethodDescriptor (mY m44).desc = some ⟨[.int, .int], (some .int)⟩ := by decide +kernel
theorem hm_45 : (mY m45).cls = cN PP.2 := rfl
theorem hn_45 : 0 < mN m45 := by decide
theorem pd_45 : parseMethodDescriptor (mY m45).desc = some ⟨[.int], (some .int)⟩ := by decide +kernel
theorem hm_46 : (mY m46).cls = cN PP.2 := rfl
theorem hn_46 : 0 < mN m46 := by decide
theorem pd_46 : parseMethodDescriptor (mY m46).desc = some ⟨[.int], (some .int)⟩ := by decide +kernel
theorem hm_47 : (mY m47).cls = cN PP.2 := rfl
theorem hn_47 : 0 < mN m47 := by decide
theorem pd_47 : parseMethodDescriptor (mY m47).desc = some ⟨[.int], (some .int)⟩ := by decide +kernel
theorem hn_48 : 0 < mN m48 := by decide
theorem d0_0 : decode (mB m0) 0 = .ok (.iload_n 1, 1) := by decide +kernel
theorem d0_1 : decode (mB m0) 1 = .ok (.aload_n 0, 1) := by decide +kernel
theorem d0_2 : decode (mB m0) 2 = .ok (.arraylength, 1) := by decide +kernel
theorem d0_3 : decode (mB m0) 3 = .ok (.if_icmp .ge 9, 3) := by decide +kernel
theorem d0_6 : decode (mB m0) 6 = .ok (.aload_n 0, 1) := by decide +kernel
theorem d0_7 : decode (mB m0) 7 = .ok (.iload_n 1, 1) := by decide +kernel
theorem d0_8 : decode (mB m0) 8 = .ok (.iaload, 1) := by decide +kernel
theorem d0_9 : decode (mB m0) 9 = .ok (.goto 4, 3) := by decide +kernel
theorem d0_12 : decode (mB m0) 12 = .ok (.iconst 0, 1) := by decide +kernel
theorem d0_13 : decode (mB m0) 13 = .ok (.ireturn, 1) := by decide +kernel
theorem d1_0 : decode (mB m1) 0 = .ok (.iload_n 0, 1) := by decide +kernel
theorem d1_1 : decode (mB m1) 1 = .ok (.iload_n 1, 1) := by decide +kernel
theorem d1_2 : decode (mB m1) 2 = .ok (.irem, 1) := by decide +kernel
theorem d1_3 : decode (mB m1) 3 = .ok (.istore_n 2, 1) := by decide +kernel
theorem d1_4 : decode (mB m1) 4 = .ok (.iload_n 2, 1) := by decide +kernel
theorem d1_5 : decode (mB m1) 5 = .ok (.ifCond .ge 9, 3) := by decide +kernel
theorem d1_8 : decode (mB m1) 8 = .ok (.iload_n 2, 1) := by decide +kernel
theorem d1_9 : decode (mB m1) 9 = .ok (.iload_n 1, 1) := by decide +kernel
theorem d1_10 : decode (mB m1) 10 = .ok (.iadd, 1) := by decide +kernel
theorem d1_11 : decode (mB m1) 11 = .ok (.goto 4, 3) := by decide +kernel
theorem d1_14 : decode (mB m1) 14 = .ok (.iload_n 2, 1) := by decide +kernel
theorem d1_15 : decode (mB m1) 15 = .ok (.ireturn, 1) := by decide +kernel
theorem d2_0 : decode (mB m2) 0 = .ok (.iload_n 1, 1) := by decide +kernel
theorem d2_1 : decode (mB m2) 1 = .ok (.iload_n 2, 1) := by decide +kernel
theorem d2_2 : decode (mB m2) 2 = .ok (.if_icmp .ge 5, 3) := by decide +kernel
theorem d2_5 : decode (mB m2) 5 = .ok (.iload_n 2, 1) := by decide +kernel
theorem d2_6 : decode (mB m2) 6 = .ok (.ireturn, 1) := by decide +kernel
theorem d2_7 : decode (mB m2) 7 = .ok (.iload_n 1, 1) := by decide +kernel
theorem d2_8 : decode (mB m2) 8 = .ok (.iload_n 3, 1) := by decide +kernel
theorem d2_9 : decode (mB m2) 9 = .ok (.if_icmp .le 5, 3) := by decide +kernel
theorem d2_12 : decode (mB m2) 12 = .ok (.iload_n 3, 1) := by decide +kernel
theorem d2_13 : decode (mB m2) 13 = .ok (.ireturn, 1) := by decide +kernel
theorem d2_14 : decode (mB m2) 14 = .ok (.iload_n 1, 1) := by decide +kernel
theorem d2_15 : decode (mB m2) 15 = .ok (.ireturn, 1) := by decide +kernel
theorem d3_0 : decode (mB m3) 0 = .ok (.iload_n 1, 1) := by decide +kernel
theorem d3_1 : decode (mB m3) 1 = .ok (.ifCond .gt 5, 3) := by decide +kernel
theorem d3_4 : decode (mB m3) 4 = .ok (.lconst 0, 1) := by decide +kernel
theorem d3_5 : decode (mB m3) 5 = .ok (.lreturn, 1) := by decide +kernel
theorem d3_6 : decode (mB m3) 6 = .ok (.iload_n 1, 1) := by decide +kernel
theorem d3_7 : decode (mB m3) 7 = .ok (.bipush 64, 2) := by decide +kernel
theorem d3_9 : decode (mB m3) 9 = .ok (.if_icmp .lt 7, 3) := by decide +kernel
theorem d3_12 : decode (mB m3) 12 = .ok (.ldc2_w 148, 3) := by decide +kernel
theorem d3_15 : decode (mB m3) 15 = .ok (.lreturn, 1) := by decide +kernel
theorem d3_16 : decode (mB m3) 16 = .ok (.lconst 1, 1) := by decide +kernel
theorem d3_17 : decode (mB m3) 17 = .ok (.iload_n 1, 1) := by decide +kernel
theorem d3_18 : decode (mB m3) 18 = .ok (.lshl, 1) := by decide +kernel
theorem d3_19 : decode (mB m3) 19 = .ok (.lconst 1, 1) := by decide +kernel
theorem d3_20 : decode (mB m3) 20 = .ok (.lsub, 1) := by decide +kernel
theorem d3_21 : decode (mB m3) 21 = .ok (.lreturn, 1) := by decide +kernel
theorem d4_0 : decode (mB m4) 0 = .ok (.iconst 0, 1) := by decide +kernel
theorem d4_1 : decode (mB m4) 1 = .ok (.istore_n 1, 1) := by decide +kernel
theorem d4_2 : decode (mB m4) 2 = .ok (.iload_n 1, 1) := by decide +kernel
theorem d4_3 : decode (mB m4) 3 = .ok (.bipush 64, 2) := by decide +kernel
theorem d4_5 : decode (mB m4) 5 = .ok (.if_icmp .ge 58, 3) := by decide +kernel
theorem d4_8 : decode (mB m4) 8 = .ok (.aload_n 0, 1) := by decide +kernel
theorem d4_9 : decode (mB m4) 9 = .ok (.getfield 7, 3) := by decide +kernel
theorem d4_12 : decode (mB m4) 12 = .ok (.iload_n 1, 1) := by decide +kernel
theorem d4_13 : decode (mB m4) 13 = .ok (.iconst 0, 1) := by decide +kernel
theorem d4_14 : decode (mB m4) 14 = .ok (.bastore, 1) := by decide +kernel
theorem d4_15 : decode (mB m4) 15 = .ok (.aload_n 0, 1) := by decide +kernel
theorem d4_16 : decode (mB m4) 16 = .ok (.getfield 13, 3) := by decide +kernel
theorem d4_19 : decode (mB m4) 19 = .ok (.iload_n 1, 1) := by decide +kernel
theorem d4_20 : decode (mB m4) 20 = .ok (.iconst 0, 1) := by decide +kernel
theorem d4_21 : decode (mB m4) 21 = .ok (.iastore, 1) := by decide +kernel
theorem d4_22 : decode (mB m4) 22 = .ok (.aload_n 0, 1) := by decide +kernel
theorem d4_23 : decode (mB m4) 23 = .ok (.getfield 17, 3) := by decide +kernel
theorem d4_26 : decode (mB m4) 26 = .ok (.iload_n 1, 1) := by decide +kernel
theorem d4_27 : decode (mB m4) 27 = .ok (.iconst 0, 1) := by decide +kernel
theorem d4_28 : decode (mB m4) 28 = .ok (.iastore, 1) := by decide +kernel
theorem d4_29 : decode (mB m4) 29 = .ok (.aload_n 0, 1) := by decide +kernel
theorem d4_30 : decode (mB m4) 30 = .ok (.getfield 20, 3) := by decide +kernel
theorem d4_33 : decode (mB m4) 33 = .ok (.iload_n 1, 1) := by decide +kernel
theorem d4_34 : decode (mB m4) 34 = .ok (.iconst (-1), 1) := by decide +kernel
theorem d4_35 : decode (mB m4) 35 = .ok (.iastore, 1) := by decide +kernel
theorem d4_36 : decode (mB m4) 36 = .ok (.aload_n 0, 1) := by decide +kernel
theorem d4_37 : decode (mB m4) 37 = .ok (.getfield 23, 3) := by decide +kernel
theorem d4_40 : decode (mB m4) 40 = .ok (.iload_n 1, 1) := by decide +kernel
theorem d4_41 : decode (mB m4) 41 = .ok (.iconst (-1), 1) := by decide +kernel
theorem d4_42 : decode (mB m4) 42 = .ok (.iastore, 1) := by decide +kernel
theorem d4_43 : decode (mB m4) 43 = .ok (.aload_n 0, 1) := by decide +kernel
theorem d4_44 : decode (mB m4) 44 = .ok (.getfield 26, 3) := by decide +kernel
theorem d4_47 : decode (mB m4) 47 = .ok (.iload_n 1, 1) := by decide +kernel
theorem d4_48 : decode (mB m4) 48 = .ok (.iconst (-1), 1) := by decide +kernel
theorem d4_49 : decode (mB m4) 49 = .ok (.iastore, 1) := by decide +kernel
theorem d4_50 : decode (mB m4) 50 = .ok (.aload_n 0, 1) := by decide +kernel
theorem d4_51 : decode (mB m4) 51 = .ok (.getfield 29, 3) := by decide +kernel
theorem d4_54 : decode (mB m4) 54 = .ok (.iload_n 1, 1) := by decide +kernel
theorem d4_55 : decode (mB m4) 55 = .ok (.iconst (-1), 1) := by decide +kernel
theorem d4_56 : decode (mB m4) 56 = .ok (.iastore, 1) := by decide +kernel
theorem d4_57 : decode (mB m4) 57 = .ok (.iinc 1 1, 3) := by decide +kernel
theorem d4_60 : decode (mB m4) 60 = .ok (.goto (-58), 3) := by decide +kernel
theorem d4_63 : decode (mB m4) 63 = .ok (.aload_n 0, 1) := by decide +kernel
theorem d4_64 : decode (mB m4) 64 = .ok (.aload_n 0, 1) := by decide +kernel
theorem d4_65 : decode (mB m4) 65 = .ok (.aload_n 0, 1) := by decide +kernel
theorem d4_66 : decode (mB m4) 66 = .ok (.getfield 40, 3) := by decide +kernel
theorem d4_69 : decode (mB m4) 69 = .ok (.invokevirtual 129, 3) := by decide +kernel
theorem d4_72 : decode (mB m4) 72 = .ok (.putfield 54, 3) := by decide +kernel
theorem d4_75 : decode (mB m4) 75 = .ok (.aload_n 0, 1) := by decide +kernel
theorem d4_76 : decode (mB m4) 76 = .ok (.lconst 0, 1) := by decide +kernel
theorem d4_77 : decode (mB m4) 77 = .ok (.putfield 132, 3) := by decide +kernel
theorem d4_80 : decode (mB m4) 80 = .ok (.aload_n 0, 1) := by decide +kernel
theorem d4_81 : decode (mB m4) 81 = .ok (.lconst 0, 1) := by decide +kernel
theorem d4_82 : decode (mB m4) 82 = .ok (.putfield 135, 3) := by decide +kernel
theorem d4_85 : decode (mB m4) 85 = .ok (.aload_n 0, 1) := by decide +kernel
theorem d4_86 : decode (mB m4) 86 = .ok (.lconst 0, 1) := by decide +kernel
theorem d4_87 : decode (mB m4) 87 = .ok (.putfield 138, 3) := by decide +kernel
theorem d4_90 : decode (mB m4) 90 = .ok (.aload_n 0, 1) := by decide +kernel
theorem d4_91 : decode (mB m4) 91 = .ok (.iconst 1, 1) := by decide +kernel
theorem d4_92 : decode (mB m4) 92 = .ok (.putfield 141, 3) := by decide +kernel
theorem d4_95 : decode (mB m4) 95 = .ok (.return_, 1) := by decide +kernel
theorem d5_0 : decode (mB m5) 0 = .ok (.aload_n 0, 1) := by decide +kernel
theorem d5_1 : decode (mB m5) 1 = .ok (.invokespecial 1, 3) := by decide +kernel
theorem d5_4 : decode (mB m5) 4 = .ok (.aload_n 0, 1) := by decide +kernel
theorem d5_5 : decode (mB m5) 5 = .ok (.bipush 64, 2) := by decide +kernel
theorem d5_7 : decode (mB m5) 7 = .ok (.newarray .byte, 2) := by decide +kernel
theorem d5_9 : decode (mB m5) 9 = .ok (.putfield 7, 3) := by decide +kernel
theorem d5_12 : decode (mB m5) 12 = .ok (.aload_n 0, 1) := by decide +kernel
theorem d5_13 : decode (mB m5) 13 = .ok (.bipush 64, 2) := by decide +kernel
theorem d5_15 : decode (mB m5) 15 = .ok (.newarray .int, 2) := by decide +kernel
theorem d5_17 : decode (mB m5) 17 = .ok (.putfield 13, 3) := by decide +kernel
theorem d5_20 : decode (mB m5) 20 = .ok (.aload_n 0, 1) := by decide +kernel
theorem d5_21 : decode (mB m5) 21 = .ok (.bipush 64, 2) := by decide +kernel
theorem d5_23 : decode (mB m5) 23 = .ok (.newarray .int, 2) := by decide +kernel
theorem d5_25 : decode (mB m5) 25 = .ok (.putfield 17, 3) := by decide +kernel
theorem d5_28 : decode (mB m5) 28 = .ok (.aload_n 0, 1) := by decide +kernel
theorem d5_29 : decode (mB m5) 29 = .ok (.bipush 64, 2) := by decide +kernel
theorem d5_31 : decode (mB m5) 31 = .ok (.newarray .int, 2) := by decide +kernel
theorem d5_33 : decode (mB m5) 33 = .ok (.putfield 20, 3) := by decide +kernel
theorem d5_36 : decode (mB m5) 36 = .ok (.aload_n 0, 1) := by decide +kernel
theorem d5_37 : decode (mB m5) 37 = .ok (.bipush 64, 2) := by decide +kernel
theorem d5_39 : decode (mB m5) 39 = .ok (.newarray .int, 2) := by decide +kernel
theorem d5_41 : decode (mB m5) 41 = .ok (.putfield 23, 3) := by decide +kernel
theorem d5_44 : decode (mB m5) 44 = .ok (.aload_n 0, 1) := by decide +kernel
theorem d5_45 : decode (mB m5) 45 = .ok (.bipush 64, 2) := by decide +kernel
theorem d5_47 : decode (mB m5) 47 = .ok (.newarray .int, 2) := by decide +kernel
theorem d5_49 : decode (mB m5) 49 = .ok (.putfield 26, 3) := by decide +kernel
theorem d5_52 : decode (mB m5) 52 = .ok (.aload_n 0, 1) := by decide +kernel
theorem d5_53 : decode (mB m5) 53 = .ok (.bipush 64, 2) := by decide +kernel
theorem d5_55 : decode (mB m5) 55 = .ok (.newarray .int, 2) := by decide +kernel
theorem d5_57 : decode (mB m5) 57 = .ok (.putfield 29, 3) := by decide +kernel
theorem d5_60 : decode (mB m5) 60 = .ok (.aload_n 0, 1) := by decide +kernel
theorem d5_61 : decode (mB m5) 61 = .ok (.bipush 7, 2) := by decide +kernel
theorem d5_63 : decode (mB m5) 63 = .ok (.newarray .long, 2) := by decide +kernel
theorem d5_65 : decode (mB m5) 65 = .ok (.putfield 32, 3) := by decide +kernel
theorem d5_68 : decode (mB m5) 68 = .ok (.aload_n 0, 1) := by decide +kernel
theorem d5_69 : decode (mB m5) 69 = .ok (.aload_n 0, 1) := by decide +kernel
theorem d5_70 : decode (mB m5) 70 = .ok (.iload_n 1, 1) := by decide +kernel
theorem d5_71 : decode (mB m5) 71 = .ok (.bipush 8, 2) := by decide +kernel
theorem d5_73 : decode (mB m5) 73 = .ok (.bipush 64, 2) := by decide +kernel
theorem d5_75 : decode (mB m5) 75 = .ok (.invokevirtual 36, 3) := by decide +kernel
theorem d5_78 : decode (mB m5) 78 = .ok (.putfield 40, 3) := by decide +kernel
theorem d5_81 : decode (mB m5) 81 = .ok (.aload_n 0, 1) := by decide +kernel
theorem d5_82 : decode (mB m5) 82 = .ok (.aload_n 0, 1) := by decide +kernel
theorem d5_83 : decode (mB m5) 83 = .ok (.iload_n 2, 1) := by decide +kernel
theorem d5_84 : decode (mB m5) 84 = .ok (.iconst 4, 1) := by decide +kernel
theorem d5_85 : decode (mB m5) 85 = .ok (.bipush 16, 2) := by decide +kernel
theorem d5_87 : decode (mB m5) 87 = .ok (.invokevirtual 36, 3) := by decide +kernel
theorem d5_90 : decode (mB m5) 90 = .ok (.putfield 44, 3) := by decide +kernel
theorem d5_93 : decode (mB m5) 93 = .ok (.aload_n 0, 1) := by decide +kernel
theorem d5_94 : decode (mB m5) 94 = .ok (.invokevirtual 47, 3) := by decide +kernel
theorem d5_97 : decode (mB m5) 97 = .ok (.return_, 1) := by decide +kernel
theorem d6_0 : decode (mB m6) 0 = .ok (.iload_n 1, 1) := by decide +kernel
theorem d6_1 : decode (mB m6) 1 = .ok (.ifCond .lt 8, 3) := by decide +kernel
theorem d6_4 : decode (mB m6) 4 = .ok (.iload_n 1, 1) := by decide +kernel
theorem d6_5 : decode (mB m6) 5 = .ok (.iconst 4, 1) := by decide +kernel
theorem d6_6 : decode (mB m6) 6 = .ok (.if_icmp .lt 5, 3) := by decide +kernel
theorem d6_9 : decode (mB m6) 9 = .ok (.iconst 0, 1) := by decide +kernel
theorem d6_10 : decode (mB m6) 10 = .ok (.ireturn, 1) := by decide +kernel
theorem d6_11 : decode (mB m6) 11 = .ok (.iload_n 2, 1) := by decide +kernel
theorem d6_12 : decode (mB m6) 12 = .ok (.ifCond .lt 15, 3) := by decide +kernel
theorem d6_15 : decode (mB m6) 15 = .ok (.iload_n 2, 1) := by decide +kernel
theorem d6_16 : decode (mB m6) 16 = .ok (.aload_n 0, 1) := by decide +kernel
theorem d6_17 : decode (mB m6) 17 = .ok (.getfield 44, 3) := by decide +kernel
theorem d6_20 : decode (mB m6) 20 = .ok (.if_icmp .ge 7, 3) := by decide +kernel
theorem d6_23 : decode (mB m6) 23 = .ok (.iconst 1, 1) := by decide +kernel
theorem d6_24 : decode (mB m6) 24 = .ok (.goto 4, 3) := by decide +kernel
theorem d6_27 : decode (mB m6) 27 = .ok (.iconst 0, 1) := by decide +kernel
theorem d6_28 : decode (mB m6) 28 = .ok (.ireturn, 1) := by decide +kernel
theorem d7_0 : decode (mB m7) 0 = .ok (.iload_n 1, 1) := by decide +kernel
theorem d7_1 : decode (mB m7) 1 = .ok (.bipush 16, 2) := by decide +kernel
theorem d7_3 : decode (mB m7) 3 = .ok (.imul, 1) := by decide +kernel
theorem d7_4 : decode (mB m7) 4 = .ok (.iload_n 2, 1) := by decide +kernel
theorem d7_5 : decode (mB m7) 5 = .ok (.iadd, 1) := by decide +kernel
theorem d7_6 : decode (mB m7) 6 = .ok (.ireturn, 1) := by decide +kernel
theorem d8_0 : decode (mB m8) 0 = .ok (.aload_n 0, 1) := by decide +kernel
theorem d8_1 : decode (mB m8) 1 = .ok (.iload_n 1, 1) := by decide +kernel
theorem d8_2 : decode (mB m8) 2 = .ok (.iload_n 2, 1) := by decide +kernel
theorem d8_3 : decode (mB m8) 3 = .ok (.invokevirtual 76, 3) := by decide +kernel
theorem d8_6 : decode (mB m8) 6 = .ok (.ifCond .ne 5, 3) := by decide +kernel
theorem d8_9 : decode (mB m8) 9 = .ok (.iconst (-1), 1) := by decide +kernel
theorem d8_10 : decode (mB m8) 10 = .ok (.ireturn, 1) := by decide +kernel
theorem d8_11 : decode (mB m8) 11 = .ok (.aload_n 0, 1) := by decide +kernel
theorem d8_12 : decode (mB m8) 12 = .ok (.iload_n 1, 1) := by decide +kernel
theorem d8_13 : decode (mB m8) 13 = .ok (.iload_n 2, 1) := by decide +kernel
theorem d8_14 : decode (mB m8) 14 = .ok (.invokevirtual 66, 3) := by decide +kernel
theorem d8_17 : decode (mB m8) 17 = .ok (.istore_n 3, 1) := by decide +kernel
theorem d8_18 : decode (mB m8) 18 = .ok (.aload_n 0, 1) := by decide +kernel
theorem d8_19 : decode (mB m8) 19 = .ok (.getfield 20, 3) := by decide +kernel
theorem d8_22 : decode (mB m8) 22 = .ok (.iload_n 3, 1) := by decide +kernel
theorem d8_23 : decode (mB m8) 23 = .ok (.iaload, 1) := by decide +kernel
theorem d8_24 : decode (mB m8) 24 = .ok (.ifCond .lt 6, 3) := by decide +kernel
theorem d8_27 : decode (mB m8) 27 = .ok (.bipush (-2), 2) := by decide +kernel
theorem d8_29 : decode (mB m8) 29 = .ok (.ireturn, 1) := by decide +kernel
theorem d8_30 : decode (mB m8) 30 = .ok (.iconst 0, 1) := by decide +kernel
theorem d8_31 : decode (mB m8) 31 = .ok (.ireturn, 1) := by decide +kernel
theorem d9_0 : decode (mB m9) 0 = .ok (.lload_n 1, 1) := by decide +kernel
theorem d9_1 : decode (mB m9) 1 = .ok (.lconst 0, 1) := by decide +kernel
theorem d9_2 : decode (mB m9) 2 = .ok (.lcmp, 1) := by decide +kernel
theorem d9_3 : decode (mB m9) 3 = .ok (.ifCond .ne 5, 3) := by decide +kernel
theorem d9_6 : decode (mB m9) 6 = .ok (.iconst (-1), 1) := by decide +kernel
theorem d9_7 : decode (mB m9) 7 = .ok (.ireturn, 1) := by decide +kernel
theorem d9_8 : decode (mB m9) 8 = .ok (.iconst 0, 1) := by decide +kernel
theorem d9_9 : decode (mB m9) 9 = .ok (.istore_n 3, 1) := by decide +kernel
theorem d9_10 : decode (mB m9) 10 = .ok (.lload_n 1, 1) := by decide +kernel
theorem d9_11 : decode (mB m9) 11 = .ok (.lstore 4, 2) := by decide +kernel
theorem d9_13 : decode (mB m9) 13 = .ok (.lload 4, 2) := by decide +kernel
theorem d9_15 : decode (mB m9) 15 = .ok (.ldc2_w 182, 3) := by decide +kernel
theorem d9_18 : decode (mB m9) 18 = .ok (.land, 1) := by decide +kernel
theorem d9_19 : decode (mB m9) 19 = .ok (.lconst 0, 1) := by decide +kernel
theorem d9_20 : decode (mB m9) 20 = .ok (.lcmp, 1) := by decide +kernel
theorem d9_21 : decode (mB m9) 21 = .ok (.ifCond .ne 13, 3) := by decide +kernel
theorem d9_24 : decode (mB m9) 24 = .ok (.iinc 3 32, 3) := by decide +kernel
theorem d9_27 : decode (mB m9) 27 = .ok (.lload 4, 2) := by decide +kernel
theorem d9_29 : decode (mB m9) 29 = .ok (.bipush 32, 2) := by decide +kernel
theorem d9_31 : decode (mB m9) 31 = .ok (.lushr, 1) := by decide +kernel
theorem d9_32 : decode (mB m9) 32 = .ok (.lstore 4, 2) := by decide +kernel
theorem d9_34 : decode (mB m9) 34 = .ok (.lload 4, 2) := by decide +kernel
theorem d9_36 : decode (mB m9) 36 = .ok (.ldc2_w 184, 3) := by decide +kernel
theorem d9_39 : decode (mB m9) 39 = .ok (.land, 1) := by decide +kernel
theorem d9_40 : decode (mB m9) 40 = .ok (.lconst 0, 1) := by decide +kernel
theorem d9_41 : decode (mB m9) 41 = .ok (.lcmp, 1) := by decide +kernel
theorem d9_42 : decode (mB m9) 42 = .ok (.ifCond .ne 13, 3) := by decide +kernel
theorem d9_45 : decode (mB m9) 45 = .ok (.iinc 3 16, 3) := by decide +kernel
theorem d9_48 : decode (mB m9) 48 = .ok (.lload 4, 2) := by decide +kernel
theorem d9_50 : decode (mB m9) 50 = .ok (.bipush 16, 2) := by decide +kernel
theorem d9_52 : decode (mB m9) 52 = .ok (.lushr, 1) := by decide +kernel
theorem d9_53 : decode (mB m9) 53 = .ok (.lstore 4, 2) := by decide +kernel
theorem d9_55 : decode (mB m9) 55 = .ok (.lload 4, 2) := by decide +kernel
theorem d9_57 : decode (mB m9) 57 = .ok (.ldc2_w 186, 3) := by decide +kernel
theorem d9_60 : decode (mB m9) 60 = .ok (.land, 1) := by decide +kernel
theorem d9_61 : decode (mB m9) 61 = .ok (.lconst 0, 1) := by decide +kernel
theorem d9_62 : decode (mB m9) 62 = .ok (.lcmp, 1) := by decide +kernel
theorem d9_63 : decode (mB m9) 63 = .ok (.ifCond .ne 13, 3) := by decide +kernel
theorem d9_66 : decode (mB m9) 66 = .ok (.iinc 3 8, 3) := by decide +kernel
theorem d9_69 : decode (mB m9) 69 = .ok (.lload 4, 2) := by decide +kernel
theorem d9_71 : decode (mB m9) 71 = .ok (.bipush 8, 2) := by decide +kernel
theorem d9_73 : decode (mB m9) 73 = .ok (.lushr, 1) := by decide +kernel
theorem d9_74 : decode (mB m9) 74 = .ok (.lstore 4, 2) := by decide +kernel
theorem d9_76 : decode (mB m9) 76 = .ok (.lload 4, 2) := by decide +kernel
theorem d9_78 : decode (mB m9) 78 = .ok (.ldc2_w 188, 3) := by decide +kernel
theorem d9_81 : decode (mB m9) 81 = .ok (.land, 1) := by decide +kernel
theorem d9_82 : decode (mB m9) 82 = .ok (.lconst 0, 1) := by decide +kernel
theorem d9_83 : decode (mB m9) 83 = .ok (.lcmp, 1) := by decide +kernel
theorem d9_84 : decode (mB m9) 84 = .ok (.ifCond .ne 12, 3) := by decide +kernel
theorem d9_87 : decode (mB m9) 87 = .ok (.iinc 3 4, 3) := by decide +kernel
theorem d9_90 : decode (mB m9) 90 = .ok (.lload 4, 2) := by decide +kernel
theorem d9_92 : decode (mB m9) 92 = .ok (.iconst 4, 1) := by decide +kernel
theorem d9_93 : decode (mB m9) 93 = .ok (.lushr, 1) := by decide +kernel
theorem d9_94 : decode (mB m9) 94 = .ok (.lstore 4, 2) := by decide +kernel
theorem d9_96 : decode (mB m9) 96 = .ok (.lload 4, 2) := by decide +kernel
theorem d9_98 : decode (mB m9) 98 = .ok (.ldc2_w 190, 3) := by decide +kernel
theorem d9_101 : decode (mB m9) 101 = .ok (.land, 1) := by decide +kernel
theorem d9_102 : decode (mB m9) 102 = .ok (.lconst 0, 1) := by decide +kernel
theorem d9_103 : decode (mB m9) 103 = .ok (.lcmp, 1) := by decide +kernel
theorem d9_104 : decode (mB m9) 104 = .ok (.ifCond .ne 12, 3) := by decide +kernel
theorem d9_107 : decode (mB m9) 107 = .ok (.iinc 3 2, 3) := by decide +kernel
theorem d9_110 : decode (mB m9) 110 = .ok (.lload 4, 2) := by decide +kernel
theorem d9_112 : decode (mB m9) 112 = .ok (.iconst 2, 1) := by decide +kernel
theorem d9_113 : decode (mB m9) 113 = .ok (.lushr, 1) := by decide +kernel
theorem d9_114 : decode (mB m9) 114 = .ok (.lstore 4, 2) := by decide +kernel
theorem d9_116 : decode (mB m9) 116 = .ok (.lload 4, 2) := by decide +kernel
theorem d9_118 : decode (mB m9) 118 = .ok (.lconst 1, 1) := by decide +kernel
theorem d9_119 : decode (mB m9) 119 = .ok (.land, 1) := by decide +kernel
theorem d9_120 : decode (mB m9) 120 = .ok (.lconst 0, 1) := by decide +kernel
theorem d9_121 : decode (mB m9) 121 = .ok (.lcmp, 1) := by decide +kernel
theorem d9_122 : decode (mB m9) 122 = .ok (.ifCond .ne 6, 3) := by decide +kernel
theorem d9_125 : decode (mB m9) 125 = .ok (.iinc 3 1, 3) := by decide +kernel
theorem d9_128 : decode (mB m9) 128 = .ok (.iload_n 3, 1) := by decide +kernel
theorem d9_129 : decode (mB m9) 129 = .ok (.ireturn, 1) := by decide +kernel
theorem d10_0 : decode (mB m10) 0 = .ok (.iload_n 1, 1) := by decide +kernel
theorem d10_1 : decode (mB m10) 1 = .ok (.ifCond .lt 15, 3) := by decide +kernel
theorem d10_4 : decode (mB m10) 4 = .ok (.iload_n 1, 1) := by decide +kernel
theorem d10_5 : decode (mB m10) 5 = .ok (.aload_n 0, 1) := by decide +kernel
theorem d10_6 : decode (mB m10) 6 = .ok (.getfield 40, 3) := by decide +kernel
theorem d10_9 : decode (mB m10) 9 = .ok (.if_icmp .ge 7, 3) := by decide +kernel
theorem d10_12 : decode (mB m10) 12 = .ok (.iconst 1, 1) := by decide +kernel
theorem d10_13 : decode (mB m10) 13 = .ok (.goto 4, 3) := by decide +kernel
theorem d10_16 : decode (mB m10) 16 = .ok (.iconst 0, 1) := by decide +kernel
theorem d10_17 : decode (mB m10) 17 = .ok (.ireturn, 1) := by decide +kernel
theorem d11_0 : decode (mB m11) 0 = .ok (.iload_n 1, 1) := by decide +kernel
theorem d11_1 : decode (mB m11) 1 = .ok (.ifCond .lt 9, 3) := by decide +kernel
theorem d11_4 : decode (mB m11) 4 = .ok (.iload_n 1, 1) := by decide +kernel
theorem d11_5 : decode (mB m11) 5 = .ok (.bipush 63, 2) := by decide +kernel
theorem d11_7 : decode (mB m11) 7 = .ok (.if_icmp .le 5, 3) := by decide +kernel
theorem d11_10 : decode (mB m11) 10 = .ok (.lconst 0, 1) := by decide +kernel
theorem d11_11 : decode (mB m11) 11 = .ok (.lreturn, 1) := by decide +kernel
theorem d11_12 : decode (mB m11) 12 = .ok (.lconst 1, 1) := by decide +kernel
theorem d11_13 : decode (mB m11) 13 = .ok (.iload_n 1, 1) := by decide +kernel
theorem d11_14 : decode (mB m11) 14 = .ok (.lshl, 1) := by decide +kernel
theorem d11_15 : decode (mB m11) 15 = .ok (.lreturn, 1) := by decide +kernel
theorem d12_0 : decode (mB m12) 0 = .ok (.aload_n 0, 1) := by decide +kernel
theorem d12_1 : decode (mB m12) 1 = .ok (.iload_n 1, 1) := by decide +kernel
theorem d12_2 : decode (mB m12) 2 = .ok (.invokevirtual 62, 3) := by decide +kernel
theorem d12_5 : decode (mB m12) 5 = .ok (.ifCond .ne 4, 3) := by decide +kernel
theorem d12_8 : decode (mB m12) 8 = .ok (.return_, 1) := by decide +kernel
theorem d12_9 : decode (mB m12) 9 = .ok (.aload_n 0, 1) := by decide +kernel
theorem d12_10 : decode (mB m12) 10 = .ok (.iload_n 1, 1) := by decide +kernel
theorem d12_11 : decode (mB m12) 11 = .ok (.invokevirtual 145, 3) := by decide +kernel
theorem d12_14 : decode (mB m12) 14 = .ok (.lstore_n 3, 1) := by decide +kernel
theorem d12_15 : decode (mB m12) 15 = .ok (.aload_n 0, 1) := by decide +kernel
theorem d12_16 : decode (mB m12) 16 = .ok (.aload_n 0, 1) := by decide +kernel
theorem d12_17 : decode (mB m12) 17 = .ok (.getfield 54, 3) := by decide +kernel
theorem d12_20 : decode (mB m12) 20 = .ok (.lload_n 3, 1) := by decide +kernel
theorem d12_21 : decode (mB m12) 21 = .ok (.ldc2_w 148, 3) := by decide +kernel
theorem d12_24 : decode (mB m12) 24 = .ok (.lxor, 1) := by decide +kernel
theorem d12_25 : decode (mB m12) 25 = .ok (.land, 1) := by decide +kernel
theorem d12_26 : decode (mB m12) 26 = .ok (.putfield 54, 3) := by decide +kernel
theorem d12_29 : decode (mB m12) 29 = .ok (.aload_n 0, 1) := by decide +kernel
theorem d12_30 : decode (mB m12) 30 = .ok (.aload_n 0, 1) := by decide +kernel
theorem d12_31 : decode (mB m12) 31 = .ok (.getfield 132, 3) := by decide +kernel
theorem d12_34 : decode (mB m12) 34 = .ok (.lload_n 3, 1) := by decide +kernel
theorem d12_35 : decode (mB m12) 35 = .ok (.ldc2_w 148, 3) := by decide +kernel
theorem d12_38 : decode (mB m12) 38 = .ok (.lxor, 1) := by decide +kernel
theorem d12_39 : decode (mB m12) 39 = .ok (.land, 1) := by decide +kernel
theorem d12_40 : decode (mB m12) 40 = .ok (.putfield 132, 3) := by decide +kernel
theorem d12_43 : decode (mB m12) 43 = .ok (.aload_n 0, 1) := by decide +kernel
theorem d12_44 : decode (mB m12) 44 = .ok (.aload_n 0, 1) := by decide +kernel
theorem d12_45 : decode (mB m12) 45 = .ok (.getfield 135, 3) := by decide +kernel
theorem d12_48 : decode (mB m12) 48 = .ok (.lload_n 3, 1) := by decide +kernel
theorem d12_49 : decode (mB m12) 49 = .ok (.ldc2_w 148, 3) := by decide +kernel
theorem d12_52 : decode (mB m12) 52 = .ok (.lxor, 1) := by decide +kernel
theorem d12_53 : decode (mB m12) 53 = .ok (.land, 1) := by decide +kernel
theorem d12_54 : decode (mB m12) 54 = .ok (.putfield 135, 3) := by decide +kernel
theorem d12_57 : decode (mB m12) 57 = .ok (.aload_n 0, 1) := by decide +kernel
theorem d12_58 : decode (mB m12) 58 = .ok (.aload_n 0, 1) := by decide +kernel
theorem d12_59 : decode (mB m12) 59 = .ok (.getfield 138, 3) := by decide +kernel
theorem d12_62 : decode (mB m12) 62 = .ok (.lload_n 3, 1) := by decide +kernel
theorem d12_63 : decode (mB m12) 63 = .ok (.ldc2_w 148, 3) := by decide +kernel
theorem d12_66 : decode (mB m12) 66 = .ok (.lxor, 1) := by decide +kernel
theorem d12_67 : decode (mB m12) 67 = .ok (.land, 1) := by decide +kernel
theorem d12_68 : decode (mB m12) 68 = .ok (.putfield 138, 3) := by decide +kernel
theorem d12_71 : decode (mB m12) 71 = .ok (.iload_n 2, 1) := by decide +kernel
theorem d12_72 : decode (mB m12) 72 = .ok (.ifCond .ne 16, 3) := by decide +kernel
theorem d12_75 : decode (mB m12) 75 = .ok (.aload_n 0, 1) := by decide +kernel
theorem d12_76 : decode (mB m12) 76 = .ok (.aload_n 0, 1) := by decide +kernel
theorem d12_77 : decode (mB m12) 77 = .ok (.getfield 54, 3) := by decide +kernel
theorem d12_80 : decode (mB m12) 80 = .ok (.lload_n 3, 1) := by decide +kernel
theorem d12_81 : decode (mB m12) 81 = .ok (.lor, 1) := by decide +kernel
theorem d12_82 : decode (mB m12) 82 = .ok (.putfield 54, 3) := by decide +kernel
theorem d12_85 : decode (mB m12) 85 = .ok (.goto 49, 3) := by decide +kernel
theorem d12_88 : decode (mB m12) 88 = .ok (.iload_n 2, 1) := by decide +kernel
theorem d12_89 : decode (mB m12) 89 = .ok (.iconst 1, 1) := by decide +kernel
theorem d12_90 : decode (mB m12) 90 = .ok (.if_icmp .ne 16, 3) := by decide +kernel
theorem d12_93 : decode (mB m12) 93 = .ok (.aload_n 0, 1) := by decide +kernel
theorem d12_94 : decode (mB m12) 94 = .ok (.aload_n 0, 1) := by decide +kernel
theorem d12_95 : decode (mB m12) 95 = .ok (.getfield 132, 3) := by decide +kernel
theorem d12_98 : decode (mB m12) 98 = .ok (.lload_n 3, 1) := by decide +kernel
theorem d12_99 : decode (mB m12) 99 = .ok (.lor, 1) := by decide +kernel
theorem d12_100 : decode (mB m12) 100 = .ok (.putfield 132, 3) := by decide +kernel
theorem d12_103 : decode (mB m12) 103 = .ok (.goto 31, 3) := by decide +kernel
theorem d12_106 : decode (mB m12) 106 = .ok (.iload_n 2, 1) := by decide +kernel
theorem d12_107 : decode (mB m12) 107 = .ok (.iconst 2, 1) := by decide +kernel
theorem d12_108 : decode (mB m12) 108 = .ok (.if_icmp .ne 16, 3) := by decide +kernel
theorem d12_111 : decode (mB m12) 111 = .ok (.aload_n 0, 1) := by decide +kernel
theorem d12_112 : decode (mB m12) 112 = .ok (.aload_n 0, 1) := by decide +kernel
theorem d12_113 : decode (mB m12) 113 = .ok (.getfield 135, 3) := by decide +kernel
theorem d12_116 : decode (mB m12) 116 = .ok (.lload_n 3, 1) := by decide +kernel
theorem d12_117 : decode (mB m12) 117 = .ok (.lor, 1) := by decide +kernel
theorem d12_118 : decode (mB m12) 118 = .ok (.putfield 135, 3) := by decide +kernel
theorem d12_121 : decode (mB m12) 121 = .ok (.goto 13, 3) := by decide +kernel
theorem d12_124 : decode (mB m12) 124 = .ok (.aload_n 0, 1) := by decide +kernel
theorem d12_125 : decode (mB m12) 125 = .ok (.aload_n 0, 1) := by decide +kernel
theorem d12_126 : decode (mB m12) 126 = .ok (.getfield 138, 3) := by decide +kernel
theorem d12_129 : decode (mB m12) 129 = .ok (.lload_n 3, 1) := by decide +kernel
theorem d12_130 : decode (mB m12) 130 = .ok (.lor, 1) := by decide +kernel
theorem d12_131 : decode (mB m12) 131 = .ok (.putfield 138, 3) := by decide +kernel
theorem d12_134 : decode (mB m12) 134 = .ok (.aload_n 0, 1) := by decide +kernel
theorem d12_135 : decode (mB m12) 135 = .ok (.getfield 7, 3) := by decide +kernel
theorem d12_138 : decode (mB m12) 138 = .ok (.iload_n 1, 1) := by decide +kernel
theorem d12_139 : decode (mB m12) 139 = .ok (.iload_n 2, 1) := by decide +kernel
theorem d12_140 : decode (mB m12) 140 = .ok (.i2b, 1) := by decide +kernel
theorem d12_141 : decode (mB m12) 141 = .ok (.bastore, 1) := by decide +kernel
theorem d12_142 : decode (mB m12) 142 = .ok (.aload_n 0, 1) := by decide +kernel
theorem d12_143 : decode (mB m12) 143 = .ok (.iconst 1, 1) := by decide +kernel
theorem d12_144 : decode (mB m12) 144 = .ok (.putfield 141, 3) := by decide +kernel
theorem d12_147 : decode (mB m12) 147 = .ok (.return_, 1) := by decide +kernel
theorem d13_0 : decode (mB m13) 0 = .ok (.aload_n 0, 1) := by decide +kernel
theorem d13_1 : decode (mB m13) 1 = .ok (.getfield 23, 3) := by decide +kernel
theorem d13_4 : decode (mB m13) 4 = .ok (.iload_n 2, 1) := by decide +kernel
theorem d13_5 : decode (mB m13) 5 = .ok (.iaload, 1) := by decide +kernel
theorem d13_6 : decode (mB m13) 6 = .ok (.istore_n 3, 1) := by decide +kernel
theorem d13_7 : decode (mB m13) 7 = .ok (.aload_n 0, 1) := by decide +kernel
theorem d13_8 : decode (mB m13) 8 = .ok (.getfield 29, 3) := by decide +kernel
theorem d13_11 : decode (mB m13) 11 = .ok (.iload_n 1, 1) := by decide +kernel
theorem d13_12 : decode (mB m13) 12 = .ok (.iconst (-1), 1) := by decide +kernel
theorem d13_13 : decode (mB m13) 13 = .ok (.iastore, 1) := by decide +kernel
theorem d13_14 : decode (mB m13) 14 = .ok (.aload_n 0, 1) := by decide +kernel
theorem d13_15 : decode (mB m13) 15 = .ok (.getfield 26, 3) := by decide +kernel
theorem d13_18 : decode (mB m13) 18 = .ok (.iload_n 1, 1) := by decide +kernel
theorem d13_19 : decode (mB m13) 19 = .ok (.iload_n 3, 1) := by decide +kernel
theorem d13_20 : decode (mB m13) 20 = .ok (.iastore, 1) := by decide +kernel
theorem d13_21 : decode (mB m13) 21 = .ok (.iload_n 3, 1) := by decide +kernel
theorem d13_22 : decode (mB m13) 22 = .ok (.ifCond .lt 16, 3) := by decide +kernel
theorem d13_25 : decode (mB m13) 25 = .ok (.iload_n 3, 1) := by decide +kernel
theorem d13_26 : decode (mB m13) 26 = .ok (.bipush 64, 2) := by decide +kernel
theorem d13_28 : decode (mB m13) 28 = .ok (.if_icmp .ge 10, 3) := by decide +kernel
theorem d13_31 : decode (mB m13) 31 = .ok (.aload_n 0, 1) := by decide +kernel
theorem d13_32 : decode (mB m13) 32 = .ok (.getfield 29, 3) := by decide +kernel
theorem d13_35 : decode (mB m13) 35 = .ok (.iload_n 3, 1) := by decide +kernel
theorem d13_36 : decode (mB m13) 36 = .ok (.iload_n 1, 1) := by decide +kernel
theorem d13_37 : decode (mB m13) 37 = .ok (.iastore, 1) := by decide +kernel
theorem d13_38 : decode (mB m13) 38 = .ok (.aload_n 0, 1) := by decide +kernel
theorem d13_39 : decode (mB m13) 39 = .ok (.getfield 23, 3) := by decide +kernel
theorem d13_42 : decode (mB m13) 42 = .ok (.iload_n 2, 1) := by decide +kernel
theorem d13_43 : decode (mB m13) 43 = .ok (.iload_n 1, 1) := by decide +kernel
theorem d13_44 : decode (mB m13) 44 = .ok (.iastore, 1) := by decide +kernel
theorem d13_45 : decode (mB m13) 45 = .ok (.aload_n 0, 1) := by decide +kernel
theorem d13_46 : decode (mB m13) 46 = .ok (.getfield 20, 3) := by decide +kernel
theorem d13_49 : decode (mB m13) 49 = .ok (.iload_n 1, 1) := by decide +kernel
theorem d13_50 : decode (mB m13) 50 = .ok (.iload_n 2, 1) := by decide +kernel
theorem d13_51 : decode (mB m13) 51 = .ok (.iastore, 1) := by decide +kernel
theorem d13_52 : decode (mB m13) 52 = .ok (.return_, 1) := by decide +kernel
theorem d14_0 : decode (mB m14) 0 = .ok (.iload_n 1, 1) := by decide +kernel
theorem d14_1 : decode (mB m14) 1 = .ok (.ifCond .lt 17, 3) := by decide +kernel
theorem d14_4 : decode (mB m14) 4 = .ok (.iload_n 1, 1) := by decide +kernel
theorem d14_5 : decode (mB m14) 5 = .ok (.bipush 64, 2) := by decide +kernel
theorem d14_7 : decode (mB m14) 7 = .ok (.if_icmp .ge 11, 3) := by decide +kernel
theorem d14_10 : decode (mB m14) 10 = .ok (.aload_n 0, 1) := by decide +kernel
theorem d14_11 : decode (mB m14) 11 = .ok (.iload_n 2, 1) := by decide +kernel
theorem d14_12 : decode (mB m14) 12 = .ok (.invokevirtual 62, 3) := by decide +kernel
theorem d14_15 : decode (mB m14) 15 = .ok (.ifCond .ne 4, 3) := by decide +kernel
theorem d14_18 : decode (mB m14) 18 = .ok (.return_, 1) := by decide +kernel
theorem d14_19 : decode (mB m14) 19 = .ok (.aload_n 0, 1) := by decide +kernel
theorem d14_20 : decode (mB m14) 20 = .ok (.iload_n 1, 1) := by decide +kernel
theorem d14_21 : decode (mB m14) 21 = .ok (.iload_n 2, 1) := by decide +kernel
theorem d14_22 : decode (mB m14) 22 = .ok (.invokevirtual 153, 3) := by decide +kernel
theorem d14_25 : decode (mB m14) 25 = .ok (.aload_n 0, 1) := by decide +kernel
theorem d14_26 : decode (mB m14) 26 = .ok (.getfield 17, 3) := by decide +kernel
theorem d14_29 : decode (mB m14) 29 = .ok (.iload_n 2, 1) := by decide +kernel
theorem d14_30 : decode (mB m14) 30 = .ok (.aload_n 0, 1) := by decide +kernel
theorem d14_31 : decode (mB m14) 31 = .ok (.getfield 17, 3) := by decide +kernel
theorem d14_34 : decode (mB m14) 34 = .ok (.iload_n 2, 1) := by decide +kernel
theorem d14_35 : decode (mB m14) 35 = .ok (.iaload, 1) := by decide +kernel
theorem d14_36 : decode (mB m14) 36 = .ok (.iconst 1, 1) := by decide +kernel
theorem d14_37 : decode (mB m14) 37 = .ok (.iadd, 1) := by decide +kernel
theorem d14_38 : decode (mB m14) 38 = .ok (.iastore, 1) := by decide +kernel
theorem d14_39 : decode (mB m14) 39 = .ok (.return_, 1) := by decide +kernel
theorem d15_0 : decode (mB m15) 0 = .ok (.aload_n 0, 1) := by decide +kernel
theorem d15_1 : decode (mB m15) 1 = .ok (.iload_n 1, 1) := by decide +kernel
theorem d15_2 : decode (mB m15) 2 = .ok (.iload_n 2, 1) := by decide +kernel
theorem d15_3 : decode (mB m15) 3 = .ok (.invokevirtual 50, 3) := by decide +kernel
theorem d15_6 : decode (mB m15) 6 = .ok (.istore 4, 2) := by decide +kernel
theorem d15_8 : decode (mB m15) 8 = .ok (.iload 4, 2) := by decide +kernel
theorem d15_10 : decode (mB m15) 10 = .ok (.ifCond .eq 6, 3) := by decide +kernel
theorem d15_13 : decode (mB m15) 13 = .ok (.iload 4, 2) := by decide +kernel
theorem d15_15 : decode (mB m15) 15 = .ok (.ireturn, 1) := by decide +kernel
theorem d15_16 : decode (mB m15) 16 = .ok (.aload_n 0, 1) := by decide +kernel
theorem d15_17 : decode (mB m15) 17 = .ok (.getfield 54, 3) := by decide +kernel
theorem d15_20 : decode (mB m15) 20 = .ok (.lconst 0, 1) := by decide +kernel
theorem d15_21 : decode (mB m15) 21 = .ok (.lcmp, 1) := by decide +kernel
theorem d15_22 : decode (mB m15) 22 = .ok (.ifCond .ne 6, 3) := by decide +kernel
theorem d15_25 : decode (mB m15) 25 = .ok (.bipush (-4), 2) := by decide +kernel
theorem d15_27 : decode (mB m15) 27 = .ok (.ireturn, 1) := by decide +kernel
theorem d15_28 : decode (mB m15) 28 = .ok (.aload_n 0, 1) := by decide +kernel
theorem d15_29 : decode (mB m15) 29 = .ok (.aload_n 0, 1) := by decide +kernel
theorem d15_30 : decode (mB m15) 30 = .ok (.getfield 54, 3) := by decide +kernel
theorem d15_33 : decode (mB m15) 33 = .ok (.invokevirtual 58, 3) := by decide +kernel
theorem d15_36 : decode (mB m15) 36 = .ok (.istore 5, 2) := by decide +kernel
theorem d15_38 : decode (mB m15) 38 = .ok (.aload_n 0, 1) := by decide +kernel
theorem d15_39 : decode (mB m15) 39 = .ok (.iload 5, 2) := by decide +kernel
theorem d15_41 : decode (mB m15) 41 = .ok (.invokevirtual 62, 3) := by decide +kernel
theorem d15_44 : decode (mB m15) 44 = .ok (.ifCond .ne 6, 3) := by decide +kernel
theorem d15_47 : decode (mB m15) 47 = .ok (.bipush (-4), 2) := by decide +kernel
theorem d15_49 : decode (mB m15) 49 = .ok (.ireturn, 1) := by decide +kernel
theorem d15_50 : decode (mB m15) 50 = .ok (.aload_n 0, 1) := by decide +kernel
theorem d15_51 : decode (mB m15) 51 = .ok (.iload_n 1, 1) := by decide +kernel
theorem d15_52 : decode (mB m15) 52 = .ok (.iload_n 2, 1) := by decide +kernel
theorem d15_53 : decode (mB m15) 53 = .ok (.invokevirtual 66, 3) := by decide +kernel
theorem d15_56 : decode (mB m15) 56 = .ok (.istore 6, 2) := by decide +kernel
theorem d15_58 : decode (mB m15) 58 = .ok (.aload_n 0, 1) := by decide +kernel
theorem d15_59 : decode (mB m15) 59 = .ok (.iload 5, 2) := by decide +kernel
theorem d15_61 : decode (mB m15) 61 = .ok (.iconst 1, 1) := by decide +kernel
theorem d15_62 : decode (mB m15) 62 = .ok (.invokevirtual 69, 3) := by decide +kernel
theorem d15_65 : decode (mB m15) 65 = .ok (.aload_n 0, 1) := by decide +kernel
theorem d15_66 : decode (mB m15) 66 = .ok (.getfield 13, 3) := by decide +kernel
theorem d15_69 : decode (mB m15) 69 = .ok (.iload 5, 2) := by decide +kernel
theorem d15_71 : decode (mB m15) 71 = .ok (.iload_n 3, 1) := by decide +kernel
theorem d15_72 : decode (mB m15) 72 = .ok (.iastore, 1) := by decide +kernel
theorem d15_73 : decode (mB m15) 73 = .ok (.aload_n 0, 1) := by decide +kernel
theorem d15_74 : decode (mB m15) 74 = .ok (.getfield 17, 3) := by decide +kernel
theorem d15_77 : decode (mB m15) 77 = .ok (.iload 5, 2) := by decide +kernel
theorem d15_79 : decode (mB m15) 79 = .ok (.iconst 0, 1) := by decide +kernel
theorem d15_80 : decode (mB m15) 80 = .ok (.iastore, 1) := by decide +kernel
theorem d15_81 : decode (mB m15) 81 = .ok (.aload_n 0, 1) := by decide +kernel
theorem d15_82 : decode (mB m15) 82 = .ok (.iload 6, 2) := by decide +kernel
theorem d15_84 : decode (mB m15) 84 = .ok (.iload 5, 2) := by decide +kernel
theorem d15_86 : decode (mB m15) 86 = .ok (.invokevirtual 73, 3) := by decide +kernel
theorem d15_89 : decode (mB m15) 89 = .ok (.iload 5, 2) := by decide +kernel
theorem d15_91 : decode (mB m15) 91 = .ok (.ireturn, 1) := by decide +kernel
theorem d16_0 : decode (mB m16) 0 = .ok (.aload_n 0, 1) := by decide +kernel
theorem d16_1 : decode (mB m16) 1 = .ok (.iload_n 1, 1) := by decide +kernel
theorem d16_2 : decode (mB m16) 2 = .ok (.iload_n 2, 1) := by decide +kernel
theorem d16_3 : decode (mB m16) 3 = .ok (.invokevirtual 76, 3) := by decide +kernel
theorem d16_6 : decode (mB m16) 6 = .ok (.ifCond .ne 5, 3) := by decide +kernel
theorem d16_9 : decode (mB m16) 9 = .ok (.iconst (-1), 1) := by decide +kernel
theorem d16_10 : decode (mB m16) 10 = .ok (.ireturn, 1) := by decide +kernel
theorem d16_11 : decode (mB m16) 11 = .ok (.aload_n 0, 1) := by decide +kernel
theorem d16_12 : decode (mB m16) 12 = .ok (.iload_n 3, 1) := by decide +kernel
theorem d16_13 : decode (mB m16) 13 = .ok (.iload 4, 2) := by decide +kernel
theorem d16_15 : decode (mB m16) 15 = .ok (.invokevirtual 76, 3) := by decide +kernel
theorem d16_18 : decode (mB m16) 18 = .ok (.ifCond .ne 5, 3) := by decide +kernel
theorem d16_21 : decode (mB m16) 21 = .ok (.iconst (-1), 1) := by decide +kernel
theorem d16_22 : decode (mB m16) 22 = .ok (.ireturn, 1) := by decide +kernel
theorem d16_23 : decode (mB m16) 23 = .ok (.aload_n 0, 1) := by decide +kernel
theorem d16_24 : decode (mB m16) 24 = .ok (.iload_n 1, 1) := by decide +kernel
theorem d16_25 : decode (mB m16) 25 = .ok (.iload_n 2, 1) := by decide +kernel
theorem d16_26 : decode (mB m16) 26 = .ok (.invokevirtual 66, 3) := by decide +kernel
theorem d16_29 : decode (mB m16) 29 = .ok (.istore 5, 2) := by decide +kernel
theorem d16_31 : decode (mB m16) 31 = .ok (.aload_n 0, 1) := by decide +kernel
theorem d16_32 : decode (mB m16) 32 = .ok (.getfield 20, 3) := by decide +kernel
theorem d16_35 : decode (mB m16) 35 = .ok (.iload 5, 2) := by decide +kernel
theorem d16_37 : decode (mB m16) 37 = .ok (.iaload, 1) := by decide +kernel
theorem d16_38 : decode (mB m16) 38 = .ok (.ifCond .lt 6, 3) := by decide +kernel
theorem d16_41 : decode (mB m16) 41 = .ok (.bipush (-2), 2) := by decide +kernel
theorem d16_43 : decode (mB m16) 43 = .ok (.ireturn, 1) := by decide +kernel
theorem d16_44 : decode (mB m16) 44 = .ok (.aload_n 0, 1) := by decide +kernel
theorem d16_45 : decode (mB m16) 45 = .ok (.iload_n 3, 1) := by decide +kernel
theorem d16_46 : decode (mB m16) 46 = .ok (.iload 4, 2) := by decide +kernel
theorem d16_48 : decode (mB m16) 48 = .ok (.invokevirtual 66, 3) := by decide +kernel
theorem d16_51 : decode (mB m16) 51 = .ok (.istore 6, 2) := by decide +kernel
theorem d16_53 : decode (mB m16) 53 = .ok (.aload_n 0, 1) := by decide +kernel
theorem d16_54 : decode (mB m16) 54 = .ok (.getfield 20, 3) := by decide +kernel
theorem d16_57 : decode (mB m16) 57 = .ok (.iload 6, 2) := by decide +kernel
theorem d16_59 : decode (mB m16) 59 = .ok (.iaload, 1) := by decide +kernel
theorem d16_60 : decode (mB m16) 60 = .ok (.istore 7, 2) := by decide +kernel
theorem d16_62 : decode (mB m16) 62 = .ok (.aload_n 0, 1) := by decide +kernel
theorem d16_63 : decode (mB m16) 63 = .ok (.iload 7, 2) := by decide +kernel
theorem d16_65 : decode (mB m16) 65 = .ok (.invokevirtual 62, 3) := by decide +kernel
theorem d16_68 : decode (mB m16) 68 = .ok (.ifCond .ne 6, 3) := by decide +kernel
theorem d16_71 : decode (mB m16) 71 = .ok (.bipush (-3), 2) := by decide +kernel
theorem d16_73 : decode (mB m16) 73 = .ok (.ireturn, 1) := by decide +kernel
theorem d16_74 : decode (mB m16) 74 = .ok (.aload_n 0, 1) := by decide +kernel
theorem d16_75 : decode (mB m16) 75 = .ok (.iload 5, 2) := by decide +kernel
theorem d16_77 : decode (mB m16) 77 = .ok (.iload 7, 2) := by decide +kernel
theorem d16_79 : decode (mB m16) 79 = .ok (.invokevirtual 73, 3) := by decide +kernel
theorem d16_82 : decode (mB m16) 82 = .ok (.iload 7, 2) := by decide +kernel
theorem d16_84 : decode (mB m16) 84 = .ok (.ireturn, 1) := by decide +kernel
theorem d17_0 : decode (mB m17) 0 = .ok (.iload_n 1, 1) := by decide +kernel
theorem d17_1 : decode (mB m17) 1 = .ok (.ifCond .lt 9, 3) := by decide +kernel
theorem d17_4 : decode (mB m17) 4 = .ok (.iload_n 1, 1) := by decide +kernel
theorem d17_5 : decode (mB m17) 5 = .ok (.bipush 64, 2) := by decide +kernel
theorem d17_7 : decode (mB m17) 7 = .ok (.if_icmp .lt 5, 3) := by decide +kernel
theorem d17_10 : decode (mB m17) 10 = .ok (.iconst (-1), 1) := by decide +kernel
theorem d17_11 : decode (mB m17) 11 = .ok (.ireturn, 1) := by decide +kernel
theorem d17_12 : decode (mB m17) 12 = .ok (.aload_n 0, 1) := by decide +kernel
theorem d17_13 : decode (mB m17) 13 = .ok (.getfield 20, 3) := by decide +kernel
theorem d17_16 : decode (mB m17) 16 = .ok (.iload_n 1, 1) := by decide +kernel
theorem d17_17 : decode (mB m17) 17 = .ok (.iaload, 1) := by decide +kernel
theorem d17_18 : decode (mB m17) 18 = .ok (.istore_n 2, 1) := by decide +kernel
theorem d17_19 : decode (mB m17) 19 = .ok (.iload_n 2, 1) := by decide +kernel
theorem d17_20 : decode (mB m17) 20 = .ok (.ifCond .lt 9, 3) := by decide +kernel
theorem d17_23 : decode (mB m17) 23 = .ok (.iload_n 2, 1) := by decide +kernel
theorem d17_24 : decode (mB m17) 24 = .ok (.bipush 64, 2) := by decide +kernel
theorem d17_26 : decode (mB m17) 26 = .ok (.if_icmp .lt 5, 3) := by decide +kernel
theorem d17_29 : decode (mB m17) 29 = .ok (.iconst (-1), 1) := by decide +kernel
theorem d17_30 : decode (mB m17) 30 = .ok (.ireturn, 1) := by decide +kernel
theorem d17_31 : decode (mB m17) 31 = .ok (.aload_n 0, 1) := by decide +kernel
theorem d17_32 : decode (mB m17) 32 = .ok (.getfield 29, 3) := by decide +kernel
theorem d17_35 : decode (mB m17) 35 = .ok (.iload_n 1, 1) := by decide +kernel
theorem d17_36 : decode (mB m17) 36 = .ok (.iaload, 1) := by decide +kernel
theorem d17_37 : decode (mB m17) 37 = .ok (.istore_n 3, 1) := by decide +kernel
theorem d17_38 : decode (mB m17) 38 = .ok (.aload_n 0, 1) := by decide +kernel
theorem d17_39 : decode (mB m17) 39 = .ok (.getfield 26, 3) := by decide +kernel
theorem d17_42 : decode (mB m17) 42 = .ok (.iload_n 1, 1) := by decide +kernel
theorem d17_43 : decode (mB m17) 43 = .ok (.iaload, 1) := by decide +kernel
theorem d17_44 : decode (mB m17) 44 = .ok (.istore 4, 2) := by decide +kernel
theorem d17_46 : decode (mB m17) 46 = .ok (.iload_n 3, 1) := by decide +kernel
theorem d17_47 : decode (mB m17) 47 = .ok (.ifCond .lt 20, 3) := by decide +kernel
theorem d17_50 : decode (mB m17) 50 = .ok (.iload_n 3, 1) := by decide +kernel
theorem d17_51 : decode (mB m17) 51 = .ok (.bipush 64, 2) := by decide +kernel
theorem d17_53 : decode (mB m17) 53 = .ok (.if_icmp .ge 14, 3) := by decide +kernel
theorem d17_56 : decode (mB m17) 56 = .ok (.aload_n 0, 1) := by decide +kernel
theorem d17_57 : decode (mB m17) 57 = .ok (.getfield 26, 3) := by decide +kernel
theorem d17_60 : decode (mB m17) 60 = .ok (.iload_n 3, 1) := by decide +kernel
theorem d17_61 : decode (mB m17) 61 = .ok (.iload 4, 2) := by decide +kernel
theorem d17_63 : decode (mB m17) 63 = .ok (.iastore, 1) := by decide +kernel
theorem d17_64 : decode (mB m17) 64 = .ok (.goto 11, 3) := by decide +kernel
theorem d17_67 : decode (mB m17) 67 = .ok (.aload_n 0, 1) := by decide +kernel
theorem d17_68 : decode (mB m17) 68 = .ok (.getfield 23, 3) := by decide +kernel
theorem d17_71 : decode (mB m17) 71 = .ok (.iload_n 2, 1) := by decide +kernel
theorem d17_72 : decode (mB m17) 72 = .ok (.iload 4, 2) := by decide +kernel
theorem d17_74 : decode (mB m17) 74 = .ok (.iastore, 1) := by decide +kernel
theorem d17_75 : decode (mB m17) 75 = .ok (.iload 4, 2) := by decide +kernel
theorem d17_77 : decode (mB m17) 77 = .ok (.ifCond .lt 18, 3) := by decide +kernel
theorem d17_80 : decode (mB m17) 80 = .ok (.iload 4, 2) := by decide +kernel
theorem d17_82 : decode (mB m17) 82 = .ok (.bipush 64, 2) := by decide +kernel
theorem d17_84 : decode (mB m17) 84 = .ok (.if_icmp .ge 11, 3) := by decide +kernel
theorem d17_87 : decode (mB m17) 87 = .ok (.aload_n 0, 1) := by decide +kernel
theorem d17_88 : decode (mB m17) 88 = .ok (.getfield 29, 3) := by decide +kernel
theorem d17_91 : decode (mB m17) 91 = .ok (.iload 4, 2) := by decide +kernel
theorem d17_93 : decode (mB m17) 93 = .ok (.iload_n 3, 1) := by decide +kernel
theorem d17_94 : decode (mB m17) 94 = .ok (.iastore, 1) := by decide +kernel
theorem d17_95 : decode (mB m17) 95 = .ok (.aload_n 0, 1) := by decide +kernel
theorem d17_96 : decode (mB m17) 96 = .ok (.getfield 29, 3) := by decide +kernel
theorem d17_99 : decode (mB m17) 99 = .ok (.iload_n 1, 1) := by decide +kernel
theorem d17_100 : decode (mB m17) 100 = .ok (.iconst (-1), 1) := by decide +kernel
theorem d17_101 : decode (mB m17) 101 = .ok (.iastore, 1) := by decide +kernel
theorem d17_102 : decode (mB m17) 102 = .ok (.aload_n 0, 1) := by decide +kernel
theorem d17_103 : decode (mB m17) 103 = .ok (.getfield 26, 3) := by decide +kernel
theorem d17_106 : decode (mB m17) 106 = .ok (.iload_n 1, 1) := by decide +kernel
theorem d17_107 : decode (mB m17) 107 = .ok (.iconst (-1), 1) := by decide +kernel
theorem d17_108 : decode (mB m17) 108 = .ok (.iastore, 1) := by decide +kernel
theorem d17_109 : decode (mB m17) 109 = .ok (.aload_n 0, 1) := by decide +kernel
theorem d17_110 : decode (mB m17) 110 = .ok (.getfield 20, 3) := by decide +kernel
theorem d17_113 : decode (mB m17) 113 = .ok (.iload_n 1, 1) := by decide +kernel
theorem d17_114 : decode (mB m17) 114 = .ok (.iconst (-1), 1) := by decide +kernel
theorem d17_115 : decode (mB m17) 115 = .ok (.iastore, 1) := by decide +kernel
theorem d17_116 : decode (mB m17) 116 = .ok (.iload_n 2, 1) := by decide +kernel
theorem d17_117 : decode (mB m17) 117 = .ok (.ireturn, 1) := by decide +kernel
theorem d18_0 : decode (mB m18) 0 = .ok (.aload_n 0, 1) := by decide +kernel
theorem d18_1 : decode (mB m18) 1 = .ok (.iload_n 1, 1) := by decide +kernel
theorem d18_2 : decode (mB m18) 2 = .ok (.invokevirtual 156, 3) := by decide +kernel
theorem d18_5 : decode (mB m18) 5 = .ok (.istore_n 2, 1) := by decide +kernel
theorem d18_6 : decode (mB m18) 6 = .ok (.aload_n 0, 1) := by decide +kernel
theorem d18_7 : decode (mB m18) 7 = .ok (.iload_n 2, 1) := by decide +kernel
theorem d18_8 : decode (mB m18) 8 = .ok (.invokevirtual 62, 3) := by decide +kernel
theorem d18_11 : decode (mB m18) 11 = .ok (.ifCond .ne 5, 3) := by decide +kernel
theorem d18_14 : decode (mB m18) 14 = .ok (.iconst (-1), 1) := by decide +kernel
theorem d18_15 : decode (mB m18) 15 = .ok (.ireturn, 1) := by decide +kernel
theorem d18_16 : decode (mB m18) 16 = .ok (.aload_n 0, 1) := by decide +kernel
theorem d18_17 : decode (mB m18) 17 = .ok (.getfield 17, 3) := by decide +kernel
theorem d18_20 : decode (mB m18) 20 = .ok (.iload_n 2, 1) := by decide +kernel
theorem d18_21 : decode (mB m18) 21 = .ok (.aload_n 0, 1) := by decide +kernel
theorem d18_22 : decode (mB m18) 22 = .ok (.getfield 17, 3) := by decide +kernel
theorem d18_25 : decode (mB m18) 25 = .ok (.iload_n 2, 1) := by decide +kernel
theorem d18_26 : decode (mB m18) 26 = .ok (.iaload, 1) := by decide +kernel
theorem d18_27 : decode (mB m18) 27 = .ok (.iconst 1, 1) := by decide +kernel
theorem d18_28 : decode (mB m18) 28 = .ok (.isub, 1) := by decide +kernel
theorem d18_29 : decode (mB m18) 29 = .ok (.iastore, 1) := by decide +kernel
theorem d18_30 : decode (mB m18) 30 = .ok (.iload_n 2, 1) := by decide +kernel
theorem d18_31 : decode (mB m18) 31 = .ok (.ireturn, 1) := by decide +kernel
theorem d19_0 : decode (mB m19) 0 = .ok (.aload_n 0, 1) := by decide +kernel
theorem d19_1 : decode (mB m19) 1 = .ok (.iload_n 1, 1) := by decide +kernel
theorem d19_2 : decode (mB m19) 2 = .ok (.invokevirtual 62, 3) := by decide +kernel
theorem d19_5 : decode (mB m19) 5 = .ok (.ifCond .ne 4, 3) := by decide +kernel
theorem d19_8 : decode (mB m19) 8 = .ok (.return_, 1) := by decide +kernel
theorem d19_9 : decode (mB m19) 9 = .ok (.aload_n 0, 1) := by decide +kernel
theorem d19_10 : decode (mB m19) 10 = .ok (.getfield 13, 3) := by decide +kernel
theorem d19_13 : decode (mB m19) 13 = .ok (.iload_n 1, 1) := by decide +kernel
theorem d19_14 : decode (mB m19) 14 = .ok (.iconst 0, 1) := by decide +kernel
theorem d19_15 : decode (mB m19) 15 = .ok (.iastore, 1) := by decide +kernel
theorem d19_16 : decode (mB m19) 16 = .ok (.aload_n 0, 1) := by decide +kernel
theorem d19_17 : decode (mB m19) 17 = .ok (.getfield 17, 3) := by decide +kernel
theorem d19_20 : decode (mB m19) 20 = .ok (.iload_n 1, 1) := by decide +kernel
theorem d19_21 : decode (mB m19) 21 = .ok (.iconst 0, 1) := by decide +kernel
theorem d19_22 : decode (mB m19) 22 = .ok (.iastore, 1) := by decide +kernel
theorem d19_23 : decode (mB m19) 23 = .ok (.aload_n 0, 1) := by decide +kernel
theorem d19_24 : decode (mB m19) 24 = .ok (.getfield 23, 3) := by decide +kernel
theorem d19_27 : decode (mB m19) 27 = .ok (.iload_n 1, 1) := by decide +kernel
theorem d19_28 : decode (mB m19) 28 = .ok (.iconst (-1), 1) := by decide +kernel
theorem d19_29 : decode (mB m19) 29 = .ok (.iastore, 1) := by decide +kernel
theorem d19_30 : decode (mB m19) 30 = .ok (.aload_n 0, 1) := by decide +kernel
theorem d19_31 : decode (mB m19) 31 = .ok (.iload_n 1, 1) := by decide +kernel
theorem d19_32 : decode (mB m19) 32 = .ok (.iconst 0, 1) := by decide +kernel
theorem d19_33 : decode (mB m19) 33 = .ok (.invokevirtual 69, 3) := by decide +kernel
theorem d19_36 : decode (mB m19) 36 = .ok (.return_, 1) := by decide +kernel
theorem d20_0 : decode (mB m20) 0 = .ok (.aload_n 0, 1) := by decide +kernel
theorem d20_1 : decode (mB m20) 1 = .ok (.iload_n 1, 1) := by decide +kernel
theorem d20_2 : decode (mB m20) 2 = .ok (.iload_n 2, 1) := by decide +kernel
theorem d20_3 : decode (mB m20) 3 = .ok (.invokevirtual 76, 3) := by decide +kernel
theorem d20_6 : decode (mB m20) 6 = .ok (.ifCond .ne 5, 3) := by decide +kernel
theorem d20_9 : decode (mB m20) 9 = .ok (.iconst (-1), 1) := by decide +kernel
theorem d20_10 : decode (mB m20) 10 = .ok (.ireturn, 1) := by decide +kernel
theorem d20_11 : decode (mB m20) 11 = .ok (.aload_n 0, 1) := by decide +kernel
theorem d20_12 : decode (mB m20) 12 = .ok (.iload_n 1, 1) := by decide +kernel
theorem d20_13 : decode (mB m20) 13 = .ok (.iload_n 2, 1) := by decide +kernel
theorem d20_14 : decode (mB m20) 14 = .ok (.invokevirtual 66, 3) := by decide +kernel
theorem d20_17 : decode (mB m20) 17 = .ok (.istore_n 3, 1) := by decide +kernel
theorem d20_18 : decode (mB m20) 18 = .ok (.aload_n 0, 1) := by decide +kernel
theorem d20_19 : decode (mB m20) 19 = .ok (.getfield 20, 3) := by decide +kernel
theorem d20_22 : decode (mB m20) 22 = .ok (.iload_n 3, 1) := by decide +kernel
theorem d20_23 : decode (mB m20) 23 = .ok (.iaload, 1) := by decide +kernel
theorem d20_24 : decode (mB m20) 24 = .ok (.ifCond .ge 6, 3) := by decide +kernel
theorem d20_27 : decode (mB m20) 27 = .ok (.bipush (-3), 2) := by decide +kernel
theorem d20_29 : decode (mB m20) 29 = .ok (.ireturn, 1) := by decide +kernel
theorem d20_30 : decode (mB m20) 30 = .ok (.aload_n 0, 1) := by decide +kernel
theorem d20_31 : decode (mB m20) 31 = .ok (.iload_n 3, 1) := by decide +kernel
theorem d20_32 : decode (mB m20) 32 = .ok (.invokevirtual 80, 3) := by decide +kernel
theorem d20_35 : decode (mB m20) 35 = .ok (.istore 4, 2) := by decide +kernel
theorem d20_37 : decode (mB m20) 37 = .ok (.aload_n 0, 1) := by decide +kernel
theorem d20_38 : decode (mB m20) 38 = .ok (.iload 4, 2) := by decide +kernel
theorem d20_40 : decode (mB m20) 40 = .ok (.invokevirtual 62, 3) := by decide +kernel
theorem d20_43 : decode (mB m20) 43 = .ok (.ifCond .ne 6, 3) := by decide +kernel
theorem d20_46 : decode (mB m20) 46 = .ok (.bipush (-3), 2) := by decide +kernel
theorem d20_48 : decode (mB m20) 48 = .ok (.ireturn, 1) := by decide +kernel
theorem d20_49 : decode (mB m20) 49 = .ok (.aload_n 0, 1) := by decide +kernel
theorem d20_50 : decode (mB m20) 50 = .ok (.getfield 17, 3) := by decide +kernel
theorem d20_53 : decode (mB m20) 53 = .ok (.iload 4, 2) := by decide +kernel
theorem d20_55 : decode (mB m20) 55 = .ok (.iaload, 1) := by decide +kernel
theorem d20_56 : decode (mB m20) 56 = .ok (.ifCond .gt 9, 3) := by decide +kernel
theorem d20_59 : decode (mB m20) 59 = .ok (.aload_n 0, 1) := by decide +kernel
theorem d20_60 : decode (mB m20) 60 = .ok (.iload 4, 2) := by decide +kernel
theorem d20_62 : decode (mB m20) 62 = .ok (.invokevirtual 84, 3) := by decide +kernel
theorem d20_65 : decode (mB m20) 65 = .ok (.iload 4, 2) := by decide +kernel
theorem d20_67 : decode (mB m20) 67 = .ok (.ireturn, 1) := by decide +kernel
theorem d21_0 : decode (mB m21) 0 = .ok (.aload_n 0, 1) := by decide +kernel
theorem d21_1 : decode (mB m21) 1 = .ok (.iload_n 1, 1) := by decide +kernel
theorem d21_2 : decode (mB m21) 2 = .ok (.iload_n 2, 1) := by decide +kernel
theorem d21_3 : decode (mB m21) 3 = .ok (.invokevirtual 76, 3) := by decide +kernel
theorem d21_6 : decode (mB m21) 6 = .ok (.ifCond .ne 5, 3) := by decide +kernel
theorem d21_9 : decode (mB m21) 9 = .ok (.iconst (-1), 1) := by decide +kernel
theorem d21_10 : decode (mB m21) 10 = .ok (.ireturn, 1) := by decide +kernel
theorem d21_11 : decode (mB m21) 11 = .ok (.aload_n 0, 1) := by decide +kernel
theorem d21_12 : decode (mB m21) 12 = .ok (.iload_n 1, 1) := by decide +kernel
theorem d21_13 : decode (mB m21) 13 = .ok (.iload_n 2, 1) := by decide +kernel
theorem d21_14 : decode (mB m21) 14 = .ok (.invokevirtual 66, 3) := by decide +kernel
theorem d21_17 : decode (mB m21) 17 = .ok (.istore_n 3, 1) := by decide +kernel
theorem d21_18 : decode (mB m21) 18 = .ok (.aload_n 0, 1) := by decide +kernel
theorem d21_19 : decode (mB m21) 19 = .ok (.getfield 20, 3) := by decide +kernel
theorem d21_22 : decode (mB m21) 22 = .ok (.iload_n 3, 1) := by decide +kernel
theorem d21_23 : decode (mB m21) 23 = .ok (.iaload, 1) := by decide +kernel
theorem d21_24 : decode (mB m21) 24 = .ok (.istore 4, 2) := by decide +kernel
theorem d21_26 : decode (mB m21) 26 = .ok (.aload_n 0, 1) := by decide +kernel
theorem d21_27 : decode (mB m21) 27 = .ok (.iload 4, 2) := by decide +kernel
theorem d21_29 : decode (mB m21) 29 = .ok (.invokevirtual 62, 3) := by decide +kernel
theorem d21_32 : decode (mB m21) 32 = .ok (.ifCond .ne 5, 3) := by decide +kernel
theorem d21_35 : decode (mB m21) 35 = .ok (.iconst (-1), 1) := by decide +kernel
theorem d21_36 : decode (mB m21) 36 = .ok (.ireturn, 1) := by decide +kernel
theorem d21_37 : decode (mB m21) 37 = .ok (.iload 4, 2) := by decide +kernel
theorem d21_39 : decode (mB m21) 39 = .ok (.ireturn, 1) := by decide +kernel
theorem d22_0 : decode (mB m22) 0 = .ok (.aload_n 0, 1) := by decide +kernel
theorem d22_1 : decode (mB m22) 1 = .ok (.iload_n 1, 1) := by decide +kernel
theorem d22_2 : decode (mB m22) 2 = .ok (.iload_n 2, 1) := by decide +kernel
theorem d22_3 : decode (mB m22) 3 = .ok (.invokevirtual 88, 3) := by decide +kernel
theorem d22_6 : decode (mB m22) 6 = .ok (.istore 4, 2) := by decide +kernel
theorem d22_8 : decode (mB m22) 8 = .ok (.iload 4, 2) := by decide +kernel
theorem d22_10 : decode (mB m22) 10 = .ok (.ifCond .ge 5, 3) := by decide +kernel
theorem d22_13 : decode (mB m22) 13 = .ok (.iconst 0, 1) := by decide +kernel
theorem d22_14 : decode (mB m22) 14 = .ok (.ireturn, 1) := by decide +kernel
theorem d22_15 : decode (mB m22) 15 = .ok (.aload_n 0, 1) := by decide +kernel
theorem d22_16 : decode (mB m22) 16 = .ok (.getfield 13, 3) := by decide +kernel
theorem d22_19 : decode (mB m22) 19 = .ok (.iload 4, 2) := by decide +kernel
theorem d22_21 : decode (mB m22) 21 = .ok (.iload_n 3, 1) := by decide +kernel
theorem d22_22 : decode (mB m22) 22 = .ok (.iastore, 1) := by decide +kernel
theorem d22_23 : decode (mB m22) 23 = .ok (.iconst 1, 1) := by decide +kernel
theorem d22_24 : decode (mB m22) 24 = .ok (.ireturn, 1) := by decide +kernel
theorem d23_0 : decode (mB m23) 0 = .ok (.aload_n 0, 1) := by decide +kernel
theorem d23_1 : decode (mB m23) 1 = .ok (.iload_n 1, 1) := by decide +kernel
theorem d23_2 : decode (mB m23) 2 = .ok (.iload_n 2, 1) := by decide +kernel
theorem d23_3 : decode (mB m23) 3 = .ok (.invokevirtual 88, 3) := by decide +kernel
theorem d23_6 : decode (mB m23) 6 = .ok (.istore_n 3, 1) := by decide +kernel
theorem d23_7 : decode (mB m23) 7 = .ok (.iload_n 3, 1) := by decide +kernel
theorem d23_8 : decode (mB m23) 8 = .ok (.ifCond .ge 5, 3) := by decide +kernel
theorem d23_11 : decode (mB m23) 11 = .ok (.iconst (-1), 1) := by decide +kernel
theorem d23_12 : decode (mB m23) 12 = .ok (.ireturn, 1) := by decide +kernel
theorem d23_13 : decode (mB m23) 13 = .ok (.iload_n 3, 1) := by decide +kernel
theorem d23_14 : decode (mB m23) 14 = .ok (.ireturn, 1) := by decide +kernel
theorem d24_0 : decode (mB m24) 0 = .ok (.aload_n 0, 1) := by decide +kernel
theorem d24_1 : decode (mB m24) 1 = .ok (.iload_n 1, 1) := by decide +kernel
theorem d24_2 : decode (mB m24) 2 = .ok (.invokevirtual 62, 3) := by decide +kernel
theorem d24_5 : decode (mB m24) 5 = .ok (.ifCond .ne 5, 3) := by decide +kernel
theorem d24_8 : decode (mB m24) 8 = .ok (.iconst 0, 1) := by decide +kernel
theorem d24_9 : decode (mB m24) 9 = .ok (.ireturn, 1) := by decide +kernel
theorem d24_10 : decode (mB m24) 10 = .ok (.aload_n 0, 1) := by decide +kernel
theorem d24_11 : decode (mB m24) 11 = .ok (.getfield 7, 3) := by decide +kernel
theorem d24_14 : decode (mB m24) 14 = .ok (.iload_n 1, 1) := by decide +kernel
theorem d24_15 : decode (mB m24) 15 = .ok (.baload, 1) := by decide +kernel
theorem d24_16 : decode (mB m24) 16 = .ok (.iconst 1, 1) := by decide +kernel
theorem d24_17 : decode (mB m24) 17 = .ok (.if_icmp .eq 5, 3) := by decide +kernel
theorem d24_20 : decode (mB m24) 20 = .ok (.iconst 0, 1) := by decide +kernel
theorem d24_21 : decode (mB m24) 21 = .ok (.ireturn, 1) := by decide +kernel
theorem d24_22 : decode (mB m24) 22 = .ok (.aload_n 0, 1) := by decide +kernel
theorem d24_23 : decode (mB m24) 23 = .ok (.iload_n 1, 1) := by decide +kernel
theorem d24_24 : decode (mB m24) 24 = .ok (.iconst 2, 1) := by decide +kernel
theorem d24_25 : decode (mB m24) 25 = .ok (.invokevirtual 69, 3) := by decide +kernel
theorem d24_28 : decode (mB m24) 28 = .ok (.iconst 1, 1) := by decide +kernel
theorem d24_29 : decode (mB m24) 29 = .ok (.ireturn, 1) := by decide +kernel
theorem d25_0 : decode (mB m25) 0 = .ok (.aload_n 0, 1) := by decide +kernel
theorem d25_1 : decode (mB m25) 1 = .ok (.iload_n 1, 1) := by decide +kernel
theorem d25_2 : decode (mB m25) 2 = .ok (.invokevirtual 62, 3) := by decide +kernel
theorem d25_5 : decode (mB m25) 5 = .ok (.ifCond .ne 5, 3) := by decide +kernel
theorem d25_8 : decode (mB m25) 8 = .ok (.iconst 0, 1) := by decide +kernel
theorem d25_9 : decode (mB m25) 9 = .ok (.ireturn, 1) := by decide +kernel
theorem d25_10 : decode (mB m25) 10 = .ok (.aload_n 0, 1) := by decide +kernel
theorem d25_11 : decode (mB m25) 11 = .ok (.getfield 7, 3) := by decide +kernel
theorem d25_14 : decode (mB m25) 14 = .ok (.iload_n 1, 1) := by decide +kernel
theorem d25_15 : decode (mB m25) 15 = .ok (.baload, 1) := by decide +kernel
theorem d25_16 : decode (mB m25) 16 = .ok (.iconst 2, 1) := by decide +kernel
theorem d25_17 : decode (mB m25) 17 = .ok (.if_icmp .eq 5, 3) := by decide +kernel
theorem d25_20 : decode (mB m25) 20 = .ok (.iconst 0, 1) := by decide +kernel
theorem d25_21 : decode (mB m25) 21 = .ok (.ireturn, 1) := by decide +kernel
theorem d25_22 : decode (mB m25) 22 = .ok (.aload_n 0, 1) := by decide +kernel
theorem d25_23 : decode (mB m25) 23 = .ok (.iload_n 1, 1) := by decide +kernel
theorem d25_24 : decode (mB m25) 24 = .ok (.iconst 1, 1) := by decide +kernel
theorem d25_25 : decode (mB m25) 25 = .ok (.invokevirtual 69, 3) := by decide +kernel
theorem d25_28 : decode (mB m25) 28 = .ok (.iconst 1, 1) := by decide +kernel
theorem d25_29 : decode (mB m25) 29 = .ok (.ireturn, 1) := by decide +kernel
theorem d26_0 : decode (mB m26) 0 = .ok (.aload_n 0, 1) := by decide +kernel
theorem d26_1 : decode (mB m26) 1 = .ok (.iload_n 1, 1) := by decide +kernel
theorem d26_2 : decode (mB m26) 2 = .ok (.invokevirtual 62, 3) := by decide +kernel
theorem d26_5 : decode (mB m26) 5 = .ok (.ifCond .ne 5, 3) := by decide +kernel
theorem d26_8 : decode (mB m26) 8 = .ok (.iconst 0, 1) := by decide +kernel
theorem d26_9 : decode (mB m26) 9 = .ok (.ireturn, 1) := by decide +kernel
theorem d26_10 : decode (mB m26) 10 = .ok (.aload_n 0, 1) := by decide +kernel
theorem d26_11 : decode (mB m26) 11 = .ok (.getfield 7, 3) := by decide +kernel
theorem d26_14 : decode (mB m26) 14 = .ok (.iload_n 1, 1) := by decide +kernel
theorem d26_15 : decode (mB m26) 15 = .ok (.baload, 1) := by decide +kernel
theorem d26_16 : decode (mB m26) 16 = .ok (.iconst 3, 1) := by decide +kernel
theorem d26_17 : decode (mB m26) 17 = .ok (.if_icmp .eq 5, 3) := by decide +kernel
theorem d26_20 : decode (mB m26) 20 = .ok (.iconst 0, 1) := by decide +kernel
theorem d26_21 : decode (mB m26) 21 = .ok (.ireturn, 1) := by decide +kernel
theorem d26_22 : decode (mB m26) 22 = .ok (.aload_n 0, 1) := by decide +kernel
theorem d26_23 : decode (mB m26) 23 = .ok (.iload_n 1, 1) := by decide +kernel
theorem d26_24 : decode (mB m26) 24 = .ok (.invokevirtual 84, 3) := by decide +kernel
theorem d26_27 : decode (mB m26) 27 = .ok (.iconst 1, 1) := by decide +kernel
theorem d26_28 : decode (mB m26) 28 = .ok (.ireturn, 1) := by decide +kernel
theorem d27_0 : decode (mB m27) 0 = .ok (.iload_n 1, 1) := by decide +kernel
theorem d27_1 : decode (mB m27) 1 = .ok (.ifCond .ne 7, 3) := by decide +kernel
theorem d27_4 : decode (mB m27) 4 = .ok (.ldc2_w 148, 3) := by decide +kernel
theorem d27_7 : decode (mB m27) 7 = .ok (.lreturn, 1) := by decide +kernel
theorem d27_8 : decode (mB m27) 8 = .ok (.iload_n 1, 1) := by decide +kernel
theorem d27_9 : decode (mB m27) 9 = .ok (.iconst 1, 1) := by decide +kernel
theorem d27_10 : decode (mB m27) 10 = .ok (.if_icmp .ne 7, 3) := by decide +kernel
theorem d27_13 : decode (mB m27) 13 = .ok (.ldc2_w 162, 3) := by decide +kernel
theorem d27_16 : decode (mB m27) 16 = .ok (.lreturn, 1) := by decide +kernel
theorem d27_17 : decode (mB m27) 17 = .ok (.iload_n 1, 1) := by decide +kernel
theorem d27_18 : decode (mB m27) 18 = .ok (.iconst 2, 1) := by decide +kernel
theorem d27_19 : decode (mB m27) 19 = .ok (.if_icmp .ne 7, 3) := by decide +kernel
theorem d27_22 : decode (mB m27) 22 = .ok (.ldc2_w 164, 3) := by decide +kernel
theorem d27_25 : decode (mB m27) 25 = .ok (.lreturn, 1) := by decide +kernel
theorem d27_26 : decode (mB m27) 26 = .ok (.iload_n 1, 1) := by decide +kernel
theorem d27_27 : decode (mB m27) 27 = .ok (.iconst 3, 1) := by decide +kernel
theorem d27_28 : decode (mB m27) 28 = .ok (.if_icmp .ne 7, 3) := by decide +kernel
theorem d27_31 : decode (mB m27) 31 = .ok (.ldc2_w 166, 3) := by decide +kernel
theorem d27_34 : decode (mB m27) 34 = .ok (.lreturn, 1) := by decide +kernel
theorem d27_35 : decode (mB m27) 35 = .ok (.iload_n 1, 1) := by decide +kernel
theorem d27_36 : decode (mB m27) 36 = .ok (.iconst 4, 1) := by decide +kernel
theorem d27_37 : decode (mB m27) 37 = .ok (.if_icmp .ne 7, 3) := by decide +kernel
theorem d27_40 : decode (mB m27) 40 = .ok (.ldc2_w 168, 3) := by decide +kernel
theorem d27_43 : decode (mB m27) 43 = .ok (.lreturn, 1) := by decide +kernel
theorem d27_44 : decode (mB m27) 44 = .ok (.iload_n 1, 1) := by decide +kernel
theorem d27_45 : decode (mB m27) 45 = .ok (.iconst 5, 1) := by decide +kernel
theorem d27_46 : decode (mB m27) 46 = .ok (.if_icmp .ne 7, 3) := by decide +kernel
theorem d27_49 : decode (mB m27) 49 = .ok (.ldc2_w 170, 3) := by decide +kernel
theorem d27_52 : decode (mB m27) 52 = .ok (.lreturn, 1) := by decide +kernel
theorem d27_53 : decode (mB m27) 53 = .ok (.iload_n 1, 1) := by decide +kernel
theorem d27_54 : decode (mB m27) 54 = .ok (.bipush 6, 2) := by decide +kernel
theorem d27_56 : decode (mB m27) 56 = .ok (.if_icmp .ne 5, 3) := by decide +kernel
theorem d27_59 : decode (mB m27) 59 = .ok (.lconst 1, 1) := by decide +kernel
theorem d27_60 : decode (mB m27) 60 = .ok (.lreturn, 1) := by decide +kernel
theorem d27_61 : decode (mB m27) 61 = .ok (.lconst 0, 1) := by decide +kernel
theorem d27_62 : decode (mB m27) 62 = .ok (.lreturn, 1) := by decide +kernel
theorem d28_0 : decode (mB m28) 0 = .ok (.aload_n 0, 1) := by decide +kernel
theorem d28_1 : decode (mB m28) 1 = .ok (.getfield 141, 3) := by decide +kernel
theorem d28_4 : decode (mB m28) 4 = .ok (.ifCond .ne 4, 3) := by decide +kernel
theorem d28_7 : decode (mB m28) 7 = .ok (.return_, 1) := by decide +kernel
theorem d28_8 : decode (mB m28) 8 = .ok (.aload_n 0, 1) := by decide +kernel
theorem d28_9 : decode (mB m28) 9 = .ok (.getfield 54, 3) := by decide +kernel
theorem d28_12 : decode (mB m28) 12 = .ok (.lstore_n 1, 1) := by decide +kernel
theorem d28_13 : decode (mB m28) 13 = .ok (.aload_n 0, 1) := by decide +kernel
theorem d28_14 : decode (mB m28) 14 = .ok (.getfield 32, 3) := by decide +kernel
theorem d28_17 : decode (mB m28) 17 = .ok (.iconst 0, 1) := by decide +kernel
theorem d28_18 : decode (mB m28) 18 = .ok (.lload_n 1, 1) := by decide +kernel
theorem d28_19 : decode (mB m28) 19 = .ok (.lastore, 1) := by decide +kernel
theorem d28_20 : decode (mB m28) 20 = .ok (.iconst 1, 1) := by decide +kernel
theorem d28_21 : decode (mB m28) 21 = .ok (.istore_n 3, 1) := by decide +kernel
theorem d28_22 : decode (mB m28) 22 = .ok (.iload_n 3, 1) := by decide +kernel
theorem d28_23 : decode (mB m28) 23 = .ok (.bipush 6, 2) := by decide +kernel
theorem d28_25 : decode (mB m28) 25 = .ok (.if_icmp .gt 40, 3) := by decide +kernel
theorem d28_28 : decode (mB m28) 28 = .ok (.iconst 1, 1) := by decide +kernel
theorem d28_29 : decode (mB m28) 29 = .ok (.iload_n 3, 1) := by decide +kernel
theorem d28_30 : decode (mB m28) 30 = .ok (.iconst 1, 1) := by decide +kernel
theorem d28_31 : decode (mB m28) 31 = .ok (.isub, 1) := by decide +kernel
theorem d28_32 : decode (mB m28) 32 = .ok (.ishl, 1) := by decide +kernel
theorem d28_33 : decode (mB m28) 33 = .ok (.istore 4, 2) := by decide +kernel
theorem d28_35 : decode (mB m28) 35 = .ok (.aload_n 0, 1) := by decide +kernel
theorem d28_36 : decode (mB m28) 36 = .ok (.iload_n 3, 1) := by decide +kernel
theorem d28_37 : decode (mB m28) 37 = .ok (.invokevirtual 159, 3) := by decide +kernel
theorem d28_40 : decode (mB m28) 40 = .ok (.lstore 5, 2) := by decide +kernel
theorem d28_42 : decode (mB m28) 42 = .ok (.lload_n 1, 1) := by decide +kernel
theorem d28_43 : decode (mB m28) 43 = .ok (.lload_n 1, 1) := by decide +kernel
theorem d28_44 : decode (mB m28) 44 = .ok (.iload 4, 2) := by decide +kernel
theorem d28_46 : decode (mB m28) 46 = .ok (.lushr, 1) := by decide +kernel
theorem d28_47 : decode (mB m28) 47 = .ok (.land, 1) := by decide +kernel
theorem d28_48 : decode (mB m28) 48 = .ok (.lload 5, 2) := by decide +kernel
theorem d28_50 : decode (mB m28) 50 = .ok (.land, 1) := by decide +kernel
theorem d28_51 : decode (mB m28) 51 = .ok (.lstore_n 1, 1) := by decide +kernel
theorem d28_52 : decode (mB m28) 52 = .ok (.aload_n 0, 1) := by decide +kernel
theorem d28_53 : decode (mB m28) 53 = .ok (.getfield 32, 3) := by decide +kernel
theorem d28_56 : decode (mB m28) 56 = .ok (.iload_n 3, 1) := by decide +kernel
theorem d28_57 : decode (mB m28) 57 = .ok (.lload_n 1, 1) := by decide +kernel
theorem d28_58 : decode (mB m28) 58 = .ok (.lastore, 1) := by decide +kernel
theorem d28_59 : decode (mB m28) 59 = .ok (.iinc 3 1, 3) := by decide +kernel
theorem d28_62 : decode (mB m28) 62 = .ok (.goto (-40), 3) := by decide +kernel
theorem d28_65 : decode (mB m28) 65 = .ok (.aload_n 0, 1) := by decide +kernel
theorem d28_66 : decode (mB m28) 66 = .ok (.iconst 0, 1) := by decide +kernel
theorem d28_67 : decode (mB m28) 67 = .ok (.putfield 141, 3) := by decide +kernel
theorem d28_70 : decode (mB m28) 70 = .ok (.return_, 1) := by decide +kernel
theorem d29_0 : decode (mB m29) 0 = .ok (.iload_n 1, 1) := by decide +kernel
theorem d29_1 : decode (mB m29) 1 = .ok (.ifCond .lt 9, 3) := by decide +kernel
theorem d29_4 : decode (mB m29) 4 = .ok (.iload_n 1, 1) := by decide +kernel
theorem d29_5 : decode (mB m29) 5 = .ok (.bipush 6, 2) := by decide +kernel
theorem d29_7 : decode (mB m29) 7 = .ok (.if_icmp .le 5, 3) := by decide +kernel
theorem d29_10 : decode (mB m29) 10 = .ok (.lconst 0, 1) := by decide +kernel
theorem d29_11 : decode (mB m29) 11 = .ok (.lreturn, 1) := by decide +kernel
theorem d29_12 : decode (mB m29) 12 = .ok (.aload_n 0, 1) := by decide +kernel
theorem d29_13 : decode (mB m29) 13 = .ok (.invokevirtual 126, 3) := by decide +kernel
theorem d29_16 : decode (mB m29) 16 = .ok (.aload_n 0, 1) := by decide +kernel
theorem d29_17 : decode (mB m29) 17 = .ok (.getfield 32, 3) := by decide +kernel
theorem d29_20 : decode (mB m29) 20 = .ok (.iload_n 1, 1) := by decide +kernel
theorem d29_21 : decode (mB m29) 21 = .ok (.laload, 1) := by decide +kernel
theorem d29_22 : decode (mB m29) 22 = .ok (.lreturn, 1) := by decide +kernel
theorem d30_0 : decode (mB m30) 0 = .ok (.aload_n 0, 1) := by decide +kernel
theorem d30_1 : decode (mB m30) 1 = .ok (.iload_n 1, 1) := by decide +kernel
theorem d30_2 : decode (mB m30) 2 = .ok (.invokevirtual 62, 3) := by decide +kernel
theorem d30_5 : decode (mB m30) 5 = .ok (.ifCond .ne 4, 3) := by decide +kernel
theorem d30_8 : decode (mB m30) 8 = .ok (.return_, 1) := by decide +kernel
theorem d30_9 : decode (mB m30) 9 = .ok (.aload_n 0, 1) := by decide +kernel
theorem d30_10 : decode (mB m30) 10 = .ok (.getfield 13, 3) := by decide +kernel
theorem d30_13 : decode (mB m30) 13 = .ok (.iload_n 1, 1) := by decide +kernel
theorem d30_14 : decode (mB m30) 14 = .ok (.iconst 0, 1) := by decide +kernel
theorem d30_15 : decode (mB m30) 15 = .ok (.iastore, 1) := by decide +kernel
theorem d30_16 : decode (mB m30) 16 = .ok (.aload_n 0, 1) := by decide +kernel
theorem d30_17 : decode (mB m30) 17 = .ok (.getfield 17, 3) := by decide +kernel
theorem d30_20 : decode (mB m30) 20 = .ok (.iload_n 1, 1) := by decide +kernel
theorem d30_21 : decode (mB m30) 21 = .ok (.iconst 0, 1) := by decide +kernel
theorem d30_22 : decode (mB m30) 22 = .ok (.iastore, 1) := by decide +kernel
theorem d30_23 : decode (mB m30) 23 = .ok (.aload_n 0, 1) := by decide +kernel
theorem d30_24 : decode (mB m30) 24 = .ok (.getfield 23, 3) := by decide +kernel
theorem d30_27 : decode (mB m30) 27 = .ok (.iload_n 1, 1) := by decide +kernel
theorem d30_28 : decode (mB m30) 28 = .ok (.iconst (-1), 1) := by decide +kernel
theorem d30_29 : decode (mB m30) 29 = .ok (.iastore, 1) := by decide +kernel
theorem d30_30 : decode (mB m30) 30 = .ok (.aload_n 0, 1) := by decide +kernel
theorem d30_31 : decode (mB m30) 31 = .ok (.iload_n 1, 1) := by decide +kernel
theorem d30_32 : decode (mB m30) 32 = .ok (.iconst 3, 1) := by decide +kernel
theorem d30_33 : decode (mB m30) 33 = .ok (.invokevirtual 69, 3) := by decide +kernel
theorem d30_36 : decode (mB m30) 36 = .ok (.return_, 1) := by decide +kernel
theorem d31_0 : decode (mB m31) 0 = .ok (.iconst 1, 1) := by decide +kernel
theorem d31_1 : decode (mB m31) 1 = .ok (.iload_n 2, 1) := by decide +kernel
theorem d31_2 : decode (mB m31) 2 = .ok (.ishl, 1) := by decide +kernel
theorem d31_3 : decode (mB m31) 3 = .ok (.istore_n 3, 1) := by decide +kernel
theorem d31_4 : decode (mB m31) 4 = .ok (.iconst 0, 1) := by decide +kernel
theorem d31_5 : decode (mB m31) 5 = .ok (.istore 4, 2) := by decide +kernel
theorem d31_7 : decode (mB m31) 7 = .ok (.iload 4, 2) := by decide +kernel
theorem d31_9 : decode (mB m31) 9 = .ok (.iload_n 3, 1) := by decide +kernel
theorem d31_10 : decode (mB m31) 10 = .ok (.if_icmp .ge 24, 3) := by decide +kernel
theorem d31_13 : decode (mB m31) 13 = .ok (.iload 4, 2) := by decide +kernel
theorem d31_15 : decode (mB m31) 15 = .ok (.bipush 64, 2) := by decide +kernel
theorem d31_17 : decode (mB m31) 17 = .ok (.if_icmp .ge 17, 3) := by decide +kernel
theorem d31_20 : decode (mB m31) 20 = .ok (.aload_n 0, 1) := by decide +kernel
theorem d31_21 : decode (mB m31) 21 = .ok (.iload_n 1, 1) := by decide +kernel
theorem d31_22 : decode (mB m31) 22 = .ok (.iload 4, 2) := by decide +kernel
theorem d31_24 : decode (mB m31) 24 = .ok (.iadd, 1) := by decide +kernel
theorem d31_25 : decode (mB m31) 25 = .ok (.invokevirtual 150, 3) := by decide +kernel
theorem d31_28 : decode (mB m31) 28 = .ok (.iinc 4 1, 3) := by decide +kernel
theorem d31_31 : decode (mB m31) 31 = .ok (.goto (-24), 3) := by decide +kernel
theorem d31_34 : decode (mB m31) 34 = .ok (.return_, 1) := by decide +kernel
theorem d32_0 : decode (mB m32) 0 = .ok (.iload_n 1, 1) := by decide +kernel
theorem d32_1 : decode (mB m32) 1 = .ok (.ifCond .lt 9, 3) := by decide +kernel
theorem d32_4 : decode (mB m32) 4 = .ok (.iload_n 1, 1) := by decide +kernel
theorem d32_5 : decode (mB m32) 5 = .ok (.bipush 6, 2) := by decide +kernel
theorem d32_7 : decode (mB m32) 7 = .ok (.if_icmp .le 5, 3) := by decide +kernel
theorem d32_10 : decode (mB m32) 10 = .ok (.iconst (-1), 1) := by decide +kernel
theorem d32_11 : decode (mB m32) 11 = .ok (.ireturn, 1) := by decide +kernel
theorem d32_12 : decode (mB m32) 12 = .ok (.aload_n 0, 1) := by decide +kernel
theorem d32_13 : decode (mB m32) 13 = .ok (.iload_n 1, 1) := by decide +kernel
theorem d32_14 : decode (mB m32) 14 = .ok (.invokevirtual 91, 3) := by decide +kernel
theorem d32_17 : decode (mB m32) 17 = .ok (.lstore_n 2, 1) := by decide +kernel
theorem d32_18 : decode (mB m32) 18 = .ok (.lload_n 2, 1) := by decide +kernel
theorem d32_19 : decode (mB m32) 19 = .ok (.lconst 0, 1) := by decide +kernel
theorem d32_20 : decode (mB m32) 20 = .ok (.lcmp, 1) := by decide +kernel
theorem d32_21 : decode (mB m32) 21 = .ok (.ifCond .ne 6, 3) := by decide +kernel
theorem d32_24 : decode (mB m32) 24 = .ok (.bipush (-4), 2) := by decide +kernel
theorem d32_26 : decode (mB m32) 26 = .ok (.ireturn, 1) := by decide +kernel
theorem d32_27 : decode (mB m32) 27 = .ok (.aload_n 0, 1) := by decide +kernel
theorem d32_28 : decode (mB m32) 28 = .ok (.lload_n 2, 1) := by decide +kernel
theorem d32_29 : decode (mB m32) 29 = .ok (.invokevirtual 58, 3) := by decide +kernel
theorem d32_32 : decode (mB m32) 32 = .ok (.istore 4, 2) := by decide +kernel
theorem d32_34 : decode (mB m32) 34 = .ok (.aload_n 0, 1) := by decide +kernel
theorem d32_35 : decode (mB m32) 35 = .ok (.iload 4, 2) := by decide +kernel
theorem d32_37 : decode (mB m32) 37 = .ok (.invokevirtual 62, 3) := by decide +kernel
theorem d32_40 : decode (mB m32) 40 = .ok (.ifCond .ne 6, 3) := by decide +kernel
theorem d32_43 : decode (mB m32) 43 = .ok (.bipush (-4), 2) := by decide +kernel
theorem d32_45 : decode (mB m32) 45 = .ok (.ireturn, 1) := by decide +kernel
theorem d32_46 : decode (mB m32) 46 = .ok (.aload_n 0, 1) := by decide +kernel
theorem d32_47 : decode (mB m32) 47 = .ok (.iload 4, 2) := by decide +kernel
theorem d32_49 : decode (mB m32) 49 = .ok (.iload_n 1, 1) := by decide +kernel
theorem d32_50 : decode (mB m32) 50 = .ok (.invokevirtual 95, 3) := by decide +kernel
theorem d32_53 : decode (mB m32) 53 = .ok (.iload 4, 2) := by decide +kernel
theorem d32_55 : decode (mB m32) 55 = .ok (.ireturn, 1) := by decide +kernel
theorem d33_0 : decode (mB m33) 0 = .ok (.iload_n 2, 1) := by decide +kernel
theorem d33_1 : decode (mB m33) 1 = .ok (.iload_n 1, 1) := by decide +kernel
theorem d33_2 : decode (mB m33) 2 = .ok (.if_icmp .gt 5, 3) := by decide +kernel
theorem d33_5 : decode (mB m33) 5 = .ok (.lconst 0, 1) := by decide +kernel
theorem d33_6 : decode (mB m33) 6 = .ok (.lreturn, 1) := by decide +kernel
theorem d33_7 : decode (mB m33) 7 = .ok (.aload_n 0, 1) := by decide +kernel
theorem d33_8 : decode (mB m33) 8 = .ok (.iload_n 2, 1) := by decide +kernel
theorem d33_9 : decode (mB m33) 9 = .ok (.invokevirtual 129, 3) := by decide +kernel
theorem d33_12 : decode (mB m33) 12 = .ok (.lstore_n 3, 1) := by decide +kernel
theorem d33_13 : decode (mB m33) 13 = .ok (.aload_n 0, 1) := by decide +kernel
theorem d33_14 : decode (mB m33) 14 = .ok (.iload_n 1, 1) := by decide +kernel
theorem d33_15 : decode (mB m33) 15 = .ok (.invokevirtual 129, 3) := by decide +kernel
theorem d33_18 : decode (mB m33) 18 = .ok (.lstore 5, 2) := by decide +kernel
theorem d33_20 : decode (mB m33) 20 = .ok (.lload_n 3, 1) := by decide +kernel
theorem d33_21 : decode (mB m33) 21 = .ok (.lload 5, 2) := by decide +kernel
theorem d33_23 : decode (mB m33) 23 = .ok (.ldc2_w 148, 3) := by decide +kernel
theorem d33_26 : decode (mB m33) 26 = .ok (.lxor, 1) := by decide +kernel
theorem d33_27 : decode (mB m33) 27 = .ok (.land, 1) := by decide +kernel
theorem d33_28 : decode (mB m33) 28 = .ok (.lreturn, 1) := by decide +kernel
theorem d34_0 : decode (mB m34) 0 = .ok (.aload_n 0, 1) := by decide +kernel
theorem d34_1 : decode (mB m34) 1 = .ok (.getfield 104, 3) := by decide +kernel
theorem d34_4 : decode (mB m34) 4 = .ok (.aload_n 0, 1) := by decide +kernel
theorem d34_5 : decode (mB m34) 5 = .ok (.getfield 107, 3) := by decide +kernel
theorem d34_8 : decode (mB m34) 8 = .ok (.if_icmp .lt 4, 3) := by decide +kernel
theorem d34_11 : decode (mB m34) 11 = .ok (.return_, 1) := by decide +kernel
theorem d34_12 : decode (mB m34) 12 = .ok (.aload_n 0, 1) := by decide +kernel
theorem d34_13 : decode (mB m34) 13 = .ok (.aload_n 0, 1) := by decide +kernel
theorem d34_14 : decode (mB m34) 14 = .ok (.getfield 104, 3) := by decide +kernel
theorem d34_17 : decode (mB m34) 17 = .ok (.aload_n 0, 1) := by decide +kernel
theorem d34_18 : decode (mB m34) 18 = .ok (.getfield 107, 3) := by decide +kernel
theorem d34_21 : decode (mB m34) 21 = .ok (.invokevirtual 172, 3) := by decide +kernel
theorem d34_24 : decode (mB m34) 24 = .ok (.lstore_n 1, 1) := by decide +kernel
theorem d34_25 : decode (mB m34) 25 = .ok (.aload_n 0, 1) := by decide +kernel
theorem d34_26 : decode (mB m34) 26 = .ok (.getfield 132, 3) := by decide +kernel
theorem d34_29 : decode (mB m34) 29 = .ok (.lload_n 1, 1) := by decide +kernel
theorem d34_30 : decode (mB m34) 30 = .ok (.land, 1) := by decide +kernel
theorem d34_31 : decode (mB m34) 31 = .ok (.lstore_n 3, 1) := by decide +kernel
theorem d34_32 : decode (mB m34) 32 = .ok (.lload_n 3, 1) := by decide +kernel
theorem d34_33 : decode (mB m34) 33 = .ok (.lconst 0, 1) := by decide +kernel
theorem d34_34 : decode (mB m34) 34 = .ok (.lcmp, 1) := by decide +kernel
theorem d34_35 : decode (mB m34) 35 = .ok (.ifCond .ne 14, 3) := by decide +kernel
theorem d34_38 : decode (mB m34) 38 = .ok (.aload_n 0, 1) := by decide +kernel
theorem d34_39 : decode (mB m34) 39 = .ok (.aload_n 0, 1) := by decide +kernel
theorem d34_40 : decode (mB m34) 40 = .ok (.getfield 107, 3) := by decide +kernel
theorem d34_43 : decode (mB m34) 43 = .ok (.putfield 104, 3) := by decide +kernel
theorem d34_46 : decode (mB m34) 46 = .ok (.goto 12, 3) := by decide +kernel
theorem d34_49 : decode (mB m34) 49 = .ok (.aload_n 0, 1) := by decide +kernel
theorem d34_50 : decode (mB m34) 50 = .ok (.aload_n 0, 1) := by decide +kernel
theorem d34_51 : decode (mB m34) 51 = .ok (.lload_n 3, 1) := by decide +kernel
theorem d34_52 : decode (mB m34) 52 = .ok (.invokevirtual 58, 3) := by decide +kernel
theorem d34_55 : decode (mB m34) 55 = .ok (.putfield 104, 3) := by decide +kernel
theorem d34_58 : decode (mB m34) 58 = .ok (.return_, 1) := by decide +kernel
theorem d35_0 : decode (mB m35) 0 = .ok (.lload_n 1, 1) := by decide +kernel
theorem d35_1 : decode (mB m35) 1 = .ok (.lconst 0, 1) := by decide +kernel
theorem d35_2 : decode (mB m35) 2 = .ok (.lcmp, 1) := by decide +kernel
theorem d35_3 : decode (mB m35) 3 = .ok (.ifCond .ne 5, 3) := by decide +kernel
theorem d35_6 : decode (mB m35) 6 = .ok (.iconst (-1), 1) := by decide +kernel
theorem d35_7 : decode (mB m35) 7 = .ok (.ireturn, 1) := by decide +kernel
theorem d35_8 : decode (mB m35) 8 = .ok (.iconst 0, 1) := by decide +kernel
theorem d35_9 : decode (mB m35) 9 = .ok (.istore_n 3, 1) := by decide +kernel
theorem d35_10 : decode (mB m35) 10 = .ok (.lload_n 1, 1) := by decide +kernel
theorem d35_11 : decode (mB m35) 11 = .ok (.lstore 4, 2) := by decide +kernel
theorem d35_13 : decode (mB m35) 13 = .ok (.lload 4, 2) := by decide +kernel
theorem d35_15 : decode (mB m35) 15 = .ok (.bipush 32, 2) := by decide +kernel
theorem d35_17 : decode (mB m35) 17 = .ok (.lushr, 1) := by decide +kernel
theorem d35_18 : decode (mB m35) 18 = .ok (.lconst 0, 1) := by decide +kernel
theorem d35_19 : decode (mB m35) 19 = .ok (.lcmp, 1) := by decide +kernel
theorem d35_20 : decode (mB m35) 20 = .ok (.ifCond .eq 13, 3) := by decide +kernel
theorem d35_23 : decode (mB m35) 23 = .ok (.iinc 3 32, 3) := by decide +kernel
theorem d35_26 : decode (mB m35) 26 = .ok (.lload 4, 2) := by decide +kernel
theorem d35_28 : decode (mB m35) 28 = .ok (.bipush 32, 2) := by decide +kernel
theorem d35_30 : decode (mB m35) 30 = .ok (.lushr, 1) := by decide +kernel
theorem d35_31 : decode (mB m35) 31 = .ok (.lstore 4, 2) := by decide +kernel
theorem d35_33 : decode (mB m35) 33 = .ok (.lload 4, 2) := by decide +kernel
theorem d35_35 : decode (mB m35) 35 = .ok (.bipush 16, 2) := by decide +kernel
theorem d35_37 : decode (mB m35) 37 = .ok (.lushr, 1) := by decide +kernel
theorem d35_38 : decode (mB m35) 38 = .ok (.lconst 0, 1) := by decide +kernel
theorem d35_39 : decode (mB m35) 39 = .ok (.lcmp, 1) := by decide +kernel
theorem d35_40 : decode (mB m35) 40 = .ok (.ifCond .eq 13, 3) := by decide +kernel
theorem d35_43 : decode (mB m35) 43 = .ok (.iinc 3 16, 3) := by decide +kernel
theorem d35_46 : decode (mB m35) 46 = .ok (.lload 4, 2) := by decide +kernel
theorem d35_48 : decode (mB m35) 48 = .ok (.bipush 16, 2) := by decide +kernel
theorem d35_50 : decode (mB m35) 50 = .ok (.lushr, 1) := by decide +kernel
theorem d35_51 : decode (mB m35) 51 = .ok (.lstore 4, 2) := by decide +kernel
theorem d35_53 : decode (mB m35) 53 = .ok (.lload 4, 2) := by decide +kernel
theorem d35_55 : decode (mB m35) 55 = .ok (.bipush 8, 2) := by decide +kernel
theorem d35_57 : decode (mB m35) 57 = .ok (.lushr, 1) := by decide +kernel
theorem d35_58 : decode (mB m35) 58 = .ok (.lconst 0, 1) := by decide +kernel
theorem d35_59 : decode (mB m35) 59 = .ok (.lcmp, 1) := by decide +kernel
theorem d35_60 : decode (mB m35) 60 = .ok (.ifCond .eq 13, 3) := by decide +kernel
theorem d35_63 : decode (mB m35) 63 = .ok (.iinc 3 8, 3) := by decide +kernel
theorem d35_66 : decode (mB m35) 66 = .ok (.lload 4, 2) := by decide +kernel
theorem d35_68 : decode (mB m35) 68 = .ok (.bipush 8, 2) := by decide +kernel
theorem d35_70 : decode (mB m35) 70 = .ok (.lushr, 1) := by decide +kernel
theorem d35_71 : decode (mB m35) 71 = .ok (.lstore 4, 2) := by decide +kernel
theorem d35_73 : decode (mB m35) 73 = .ok (.lload 4, 2) := by decide +kernel
theorem d35_75 : decode (mB m35) 75 = .ok (.iconst 4, 1) := by decide +kernel
theorem d35_76 : decode (mB m35) 76 = .ok (.lushr, 1) := by decide +kernel
theorem d35_77 : decode (mB m35) 77 = .ok (.lconst 0, 1) := by decide +kernel
theorem d35_78 : decode (mB m35) 78 = .ok (.lcmp, 1) := by decide +kernel
theorem d35_79 : decode (mB m35) 79 = .ok (.ifCond .eq 12, 3) := by decide +kernel
theorem d35_82 : decode (mB m35) 82 = .ok (.iinc 3 4, 3) := by decide +kernel
theorem d35_85 : decode (mB m35) 85 = .ok (.lload 4, 2) := by decide +kernel
theorem d35_87 : decode (mB m35) 87 = .ok (.iconst 4, 1) := by decide +kernel
theorem d35_88 : decode (mB m35) 88 = .ok (.lushr, 1) := by decide +kernel
theorem d35_89 : decode (mB m35) 89 = .ok (.lstore 4, 2) := by decide +kernel
theorem d35_91 : decode (mB m35) 91 = .ok (.lload 4, 2) := by decide +kernel
theorem d35_93 : decode (mB m35) 93 = .ok (.iconst 2, 1) := by decide +kernel
theorem d35_94 : decode (mB m35) 94 = .ok (.lushr, 1) := by decide +kernel
theorem d35_95 : decode (mB m35) 95 = .ok (.lconst 0, 1) := by decide +kernel
theorem d35_96 : decode (mB m35) 96 = .ok (.lcmp, 1) := by decide +kernel
theorem d35_97 : decode (mB m35) 97 = .ok (.ifCond .eq 12, 3) := by decide +kernel
theorem d35_100 : decode (mB m35) 100 = .ok (.iinc 3 2, 3) := by decide +kernel
theorem d35_103 : decode (mB m35) 103 = .ok (.lload 4, 2) := by decide +kernel
theorem d35_105 : decode (mB m35) 105 = .ok (.iconst 2, 1) := by decide +kernel
theorem d35_106 : decode (mB m35) 106 = .ok (.lushr, 1) := by decide +kernel
theorem d35_107 : decode (mB m35) 107 = .ok (.lstore 4, 2) := by decide +kernel
theorem d35_109 : decode (mB m35) 109 = .ok (.lload 4, 2) := by decide +kernel
theorem d35_111 : decode (mB m35) 111 = .ok (.iconst 1, 1) := by decide +kernel
theorem d35_112 : decode (mB m35) 112 = .ok (.lushr, 1) := by decide +kernel
theorem d35_113 : decode (mB m35) 113 = .ok (.lconst 0, 1) := by decide +kernel
theorem d35_114 : decode (mB m35) 114 = .ok (.lcmp, 1) := by decide +kernel
theorem d35_115 : decode (mB m35) 115 = .ok (.ifCond .eq 6, 3) := by decide +kernel
theorem d35_118 : decode (mB m35) 118 = .ok (.iinc 3 1, 3) := by decide +kernel
theorem d35_121 : decode (mB m35) 121 = .ok (.iload_n 3, 1) := by decide +kernel
theorem d35_122 : decode (mB m35) 122 = .ok (.ireturn, 1) := by decide +kernel
theorem d36_0 : decode (mB m36) 0 = .ok (.aload_n 0, 1) := by decide +kernel
theorem d36_1 : decode (mB m36) 1 = .ok (.getfield 107, 3) := by decide +kernel
theorem d36_4 : decode (mB m36) 4 = .ok (.aload_n 0, 1) := by decide +kernel
theorem d36_5 : decode (mB m36) 5 = .ok (.getfield 104, 3) := by decide +kernel
theorem d36_8 : decode (mB m36) 8 = .ok (.if_icmp .gt 4, 3) := by decide +kernel
theorem d36_11 : decode (mB m36) 11 = .ok (.return_, 1) := by decide +kernel
theorem d36_12 : decode (mB m36) 12 = .ok (.aload_n 0, 1) := by decide +kernel
theorem d36_13 : decode (mB m36) 13 = .ok (.aload_n 0, 1) := by decide +kernel
theorem d36_14 : decode (mB m36) 14 = .ok (.getfield 104, 3) := by decide +kernel
theorem d36_17 : decode (mB m36) 17 = .ok (.iconst 1, 1) := by decide +kernel
theorem d36_18 : decode (mB m36) 18 = .ok (.iadd, 1) := by decide +kernel
theorem d36_19 : decode (mB m36) 19 = .ok (.aload_n 0, 1) := by decide +kernel
theorem d36_20 : decode (mB m36) 20 = .ok (.getfield 107, 3) := by decide +kernel
theorem d36_23 : decode (mB m36) 23 = .ok (.iconst 1, 1) := by decide +kernel
theorem d36_24 : decode (mB m36) 24 = .ok (.iadd, 1) := by decide +kernel
theorem d36_25 : decode (mB m36) 25 = .ok (.invokevirtual 172, 3) := by decide +kernel
theorem d36_28 : decode (mB m36) 28 = .ok (.lstore_n 1, 1) := by decide +kernel
theorem d36_29 : decode (mB m36) 29 = .ok (.aload_n 0, 1) := by decide +kernel
theorem d36_30 : decode (mB m36) 30 = .ok (.getfield 54, 3) := by decide +kernel
theorem d36_33 : decode (mB m36) 33 = .ok (.lload_n 1, 1) := by decide +kernel
theorem d36_34 : decode (mB m36) 34 = .ok (.land, 1) := by decide +kernel
theorem d36_35 : decode (mB m36) 35 = .ok (.lstore_n 3, 1) := by decide +kernel
theorem d36_36 : decode (mB m36) 36 = .ok (.lload_n 3, 1) := by decide +kernel
theorem d36_37 : decode (mB m36) 37 = .ok (.lconst 0, 1) := by decide +kernel
theorem d36_38 : decode (mB m36) 38 = .ok (.lcmp, 1) := by decide +kernel
theorem d36_39 : decode (mB m36) 39 = .ok (.ifCond .ne 14, 3) := by decide +kernel
theorem d36_42 : decode (mB m36) 42 = .ok (.aload_n 0, 1) := by decide +kernel
theorem d36_43 : decode (mB m36) 43 = .ok (.aload_n 0, 1) := by decide +kernel
theorem d36_44 : decode (mB m36) 44 = .ok (.getfield 104, 3) := by decide +kernel
theorem d36_47 : decode (mB m36) 47 = .ok (.putfield 107, 3) := by decide +kernel
theorem d36_50 : decode (mB m36) 50 = .ok (.goto 12, 3) := by decide +kernel
theorem d36_53 : decode (mB m36) 53 = .ok (.aload_n 0, 1) := by decide +kernel
theorem d36_54 : decode (mB m36) 54 = .ok (.aload_n 0, 1) := by decide +kernel
theorem d36_55 : decode (mB m36) 55 = .ok (.lload_n 3, 1) := by decide +kernel
theorem d36_56 : decode (mB m36) 56 = .ok (.invokevirtual 176, 3) := by decide +kernel
theorem d36_59 : decode (mB m36) 59 = .ok (.putfield 107, 3) := by decide +kernel
theorem d36_62 : decode (mB m36) 62 = .ok (.return_, 1) := by decide +kernel
theorem d37_0 : decode (mB m37) 0 = .ok (.aload_n 0, 1) := by decide +kernel
theorem d37_1 : decode (mB m37) 1 = .ok (.getfield 104, 3) := by decide +kernel
theorem d37_4 : decode (mB m37) 4 = .ok (.aload_n 0, 1) := by decide +kernel
theorem d37_5 : decode (mB m37) 5 = .ok (.getfield 107, 3) := by decide +kernel
theorem d37_8 : decode (mB m37) 8 = .ok (.if_icmp .lt 5, 3) := by decide +kernel
theorem d37_11 : decode (mB m37) 11 = .ok (.iconst 1, 1) := by decide +kernel
theorem d37_12 : decode (mB m37) 12 = .ok (.ireturn, 1) := by decide +kernel
theorem d37_13 : decode (mB m37) 13 = .ok (.aload_n 0, 1) := by decide +kernel
theorem d37_14 : decode (mB m37) 14 = .ok (.getfield 101, 3) := by decide +kernel
theorem d37_17 : decode (mB m37) 17 = .ok (.aload_n 0, 1) := by decide +kernel
theorem d37_18 : decode (mB m37) 18 = .ok (.getfield 98, 3) := by decide +kernel
theorem d37_21 : decode (mB m37) 21 = .ok (.if_icmp .ne 7, 3) := by decide +kernel
theorem d37_24 : decode (mB m37) 24 = .ok (.iconst 1, 1) := by decide +kernel
theorem d37_25 : decode (mB m37) 25 = .ok (.goto 4, 3) := by decide +kernel
theorem d37_28 : decode (mB m37) 28 = .ok (.iconst 0, 1) := by decide +kernel
theorem d37_29 : decode (mB m37) 29 = .ok (.ireturn, 1) := by decide +kernel
theorem d38_0 : decode (mB m38) 0 = .ok (.aload_n 0, 1) := by decide +kernel
theorem d38_1 : decode (mB m38) 1 = .ok (.getfield 23, 3) := by decide +kernel
theorem d38_4 : decode (mB m38) 4 = .ok (.iload_n 1, 1) := by decide +kernel
theorem d38_5 : decode (mB m38) 5 = .ok (.iaload, 1) := by decide +kernel
theorem d38_6 : decode (mB m38) 6 = .ok (.istore_n 3, 1) := by decide +kernel
theorem d38_7 : decode (mB m38) 7 = .ok (.iconst 0, 1) := by decide +kernel
theorem d38_8 : decode (mB m38) 8 = .ok (.istore 4, 2) := by decide +kernel
theorem d38_10 : decode (mB m38) 10 = .ok (.iload 4, 2) := by decide +kernel
theorem d38_12 : decode (mB m38) 12 = .ok (.bipush 64, 2) := by decide +kernel
theorem d38_14 : decode (mB m38) 14 = .ok (.if_icmp .ge 33, 3) := by decide +kernel
theorem d38_17 : decode (mB m38) 17 = .ok (.iload_n 3, 1) := by decide +kernel
theorem d38_18 : decode (mB m38) 18 = .ok (.ifCond .lt 29, 3) := by decide +kernel
theorem d38_21 : decode (mB m38) 21 = .ok (.iload_n 3, 1) := by decide +kernel
theorem d38_22 : decode (mB m38) 22 = .ok (.bipush 64, 2) := by decide +kernel
theorem d38_24 : decode (mB m38) 24 = .ok (.if_icmp .ge 23, 3) := by decide +kernel
theorem d38_27 : decode (mB m38) 27 = .ok (.aload_n 0, 1) := by decide +kernel
theorem d38_28 : decode (mB m38) 28 = .ok (.getfield 20, 3) := by decide +kernel
theorem d38_31 : decode (mB m38) 31 = .ok (.iload_n 3, 1) := by decide +kernel
theorem d38_32 : decode (mB m38) 32 = .ok (.iload_n 2, 1) := by decide +kernel
theorem d38_33 : decode (mB m38) 33 = .ok (.iastore, 1) := by decide +kernel
theorem d38_34 : decode (mB m38) 34 = .ok (.aload_n 0, 1) := by decide +kernel
theorem d38_35 : decode (mB m38) 35 = .ok (.getfield 26, 3) := by decide +kernel
theorem d38_38 : decode (mB m38) 38 = .ok (.iload_n 3, 1) := by decide +kernel
theorem d38_39 : decode (mB m38) 39 = .ok (.iaload, 1) := by decide +kernel
theorem d38_40 : decode (mB m38) 40 = .ok (.istore_n 3, 1) := by decide +kernel
theorem d38_41 : decode (mB m38) 41 = .ok (.iinc 4 1, 3) := by decide +kernel
theorem d38_44 : decode (mB m38) 44 = .ok (.goto (-34), 3) := by decide +kernel
theorem d38_47 : decode (mB m38) 47 = .ok (.aload_n 0, 1) := by decide +kernel
theorem d38_48 : decode (mB m38) 48 = .ok (.getfield 23, 3) := by decide +kernel
theorem d38_51 : decode (mB m38) 51 = .ok (.iload_n 2, 1) := by decide +kernel
theorem d38_52 : decode (mB m38) 52 = .ok (.aload_n 0, 1) := by decide +kernel
theorem d38_53 : decode (mB m38) 53 = .ok (.getfield 23, 3) := by decide +kernel
theorem d38_56 : decode (mB m38) 56 = .ok (.iload_n 1, 1) := by decide +kernel
theorem d38_57 : decode (mB m38) 57 = .ok (.iaload, 1) := by decide +kernel
theorem d38_58 : decode (mB m38) 58 = .ok (.iastore, 1) := by decide +kernel
theorem d38_59 : decode (mB m38) 59 = .ok (.aload_n 0, 1) := by decide +kernel
theorem d38_60 : decode (mB m38) 60 = .ok (.getfield 23, 3) := by decide +kernel
theorem d38_63 : decode (mB m38) 63 = .ok (.iload_n 1, 1) := by decide +kernel
theorem d38_64 : decode (mB m38) 64 = .ok (.iconst (-1), 1) := by decide +kernel
theorem d38_65 : decode (mB m38) 65 = .ok (.iastore, 1) := by decide +kernel
theorem d38_66 : decode (mB m38) 66 = .ok (.return_, 1) := by decide +kernel
theorem d39_0 : decode (mB m39) 0 = .ok (.aload_n 0, 1) := by decide +kernel
theorem d39_1 : decode (mB m39) 1 = .ok (.iload_n 1, 1) := by decide +kernel
theorem d39_2 : decode (mB m39) 2 = .ok (.invokevirtual 62, 3) := by decide +kernel
theorem d39_5 : decode (mB m39) 5 = .ok (.ifCond .eq 11, 3) := by decide +kernel
theorem d39_8 : decode (mB m39) 8 = .ok (.aload_n 0, 1) := by decide +kernel
theorem d39_9 : decode (mB m39) 9 = .ok (.iload_n 2, 1) := by decide +kernel
theorem d39_10 : decode (mB m39) 10 = .ok (.invokevirtual 62, 3) := by decide +kernel
theorem d39_13 : decode (mB m39) 13 = .ok (.ifCond .ne 4, 3) := by decide +kernel
theorem d39_16 : decode (mB m39) 16 = .ok (.return_, 1) := by decide +kernel
theorem d39_17 : decode (mB m39) 17 = .ok (.aload_n 0, 1) := by decide +kernel
theorem d39_18 : decode (mB m39) 18 = .ok (.getfield 7, 3) := by decide +kernel
theorem d39_21 : decode (mB m39) 21 = .ok (.iload_n 1, 1) := by decide +kernel
theorem d39_22 : decode (mB m39) 22 = .ok (.baload, 1) := by decide +kernel
theorem d39_23 : decode (mB m39) 23 = .ok (.iconst 1, 1) := by decide +kernel
theorem d39_24 : decode (mB m39) 24 = .ok (.if_icmp .ne 12, 3) := by decide +kernel
theorem d39_27 : decode (mB m39) 27 = .ok (.aload_n 0, 1) := by decide +kernel
theorem d39_28 : decode (mB m39) 28 = .ok (.getfield 7, 3) := by decide +kernel
theorem d39_31 : decode (mB m39) 31 = .ok (.iload_n 2, 1) := by decide +kernel
theorem d39_32 : decode (mB m39) 32 = .ok (.baload, 1) := by decide +kernel
theorem d39_33 : decode (mB m39) 33 = .ok (.ifCond .eq 4, 3) := by decide +kernel
theorem d39_36 : decode (mB m39) 36 = .ok (.return_, 1) := by decide +kernel
theorem d39_37 : decode (mB m39) 37 = .ok (.aload_n 0, 1) := by decide +kernel
theorem d39_38 : decode (mB m39) 38 = .ok (.getfield 13, 3) := by decide +kernel
theorem d39_41 : decode (mB m39) 41 = .ok (.iload_n 1, 1) := by decide +kernel
theorem d39_42 : decode (mB m39) 42 = .ok (.iaload, 1) := by decide +kernel
theorem d39_43 : decode (mB m39) 43 = .ok (.istore_n 3, 1) := by decide +kernel
theorem d39_44 : decode (mB m39) 44 = .ok (.aload_n 0, 1) := by decide +kernel
theorem d39_45 : decode (mB m39) 45 = .ok (.getfield 17, 3) := by decide +kernel
theorem d39_48 : decode (mB m39) 48 = .ok (.iload_n 1, 1) := by decide +kernel
theorem d39_49 : decode (mB m39) 49 = .ok (.iaload, 1) := by decide +kernel
theorem d39_50 : decode (mB m39) 50 = .ok (.istore 4, 2) := by decide +kernel
theorem d39_52 : decode (mB m39) 52 = .ok (.aload_n 0, 1) := by decide +kernel
theorem d39_53 : decode (mB m39) 53 = .ok (.iload_n 2, 1) := by decide +kernel
theorem d39_54 : decode (mB m39) 54 = .ok (.iconst 1, 1) := by decide +kernel
theorem d39_55 : decode (mB m39) 55 = .ok (.invokevirtual 69, 3) := by decide +kernel
theorem d39_58 : decode (mB m39) 58 = .ok (.aload_n 0, 1) := by decide +kernel
theorem d39_59 : decode (mB m39) 59 = .ok (.getfield 13, 3) := by decide +kernel
theorem d39_62 : decode (mB m39) 62 = .ok (.iload_n 2, 1) := by decide +kernel
theorem d39_63 : decode (mB m39) 63 = .ok (.iload_n 3, 1) := by decide +kernel
theorem d39_64 : decode (mB m39) 64 = .ok (.iastore, 1) := by decide +kernel
theorem d39_65 : decode (mB m39) 65 = .ok (.aload_n 0, 1) := by decide +kernel
theorem d39_66 : decode (mB m39) 66 = .ok (.getfield 17, 3) := by decide +kernel
theorem d39_69 : decode (mB m39) 69 = .ok (.iload_n 2, 1) := by decide +kernel
theorem d39_70 : decode (mB m39) 70 = .ok (.iload 4, 2) := by decide +kernel
theorem d39_72 : decode (mB m39) 72 = .ok (.iastore, 1) := by decide +kernel
theorem d39_73 : decode (mB m39) 73 = .ok (.aload_n 0, 1) := by decide +kernel
theorem d39_74 : decode (mB m39) 74 = .ok (.iload_n 1, 1) := by decide +kernel
theorem d39_75 : decode (mB m39) 75 = .ok (.iload_n 2, 1) := by decide +kernel
theorem d39_76 : decode (mB m39) 76 = .ok (.invokevirtual 179, 3) := by decide +kernel
theorem d39_79 : decode (mB m39) 79 = .ok (.aload_n 0, 1) := by decide +kernel
theorem d39_80 : decode (mB m39) 80 = .ok (.iload_n 1, 1) := by decide +kernel
theorem d39_81 : decode (mB m39) 81 = .ok (.invokevirtual 84, 3) := by decide +kernel
theorem d39_84 : decode (mB m39) 84 = .ok (.return_, 1) := by decide +kernel
theorem d40_0 : decode (mB m40) 0 = .ok (.aload_n 0, 1) := by decide +kernel
theorem d40_1 : decode (mB m40) 1 = .ok (.aload_n 0, 1) := by decide +kernel
theorem d40_2 : decode (mB m40) 2 = .ok (.iload_n 1, 1) := by decide +kernel
theorem d40_3 : decode (mB m40) 3 = .ok (.iconst 0, 1) := by decide +kernel
theorem d40_4 : decode (mB m40) 4 = .ok (.bipush 64, 2) := by decide +kernel
theorem d40_6 : decode (mB m40) 6 = .ok (.invokevirtual 36, 3) := by decide +kernel
theorem d40_9 : decode (mB m40) 9 = .ok (.putfield 98, 3) := by decide +kernel
theorem d40_12 : decode (mB m40) 12 = .ok (.aload_n 0, 1) := by decide +kernel
theorem d40_13 : decode (mB m40) 13 = .ok (.iconst 0, 1) := by decide +kernel
theorem d40_14 : decode (mB m40) 14 = .ok (.putfield 101, 3) := by decide +kernel
theorem d40_17 : decode (mB m40) 17 = .ok (.aload_n 0, 1) := by decide +kernel
theorem d40_18 : decode (mB m40) 18 = .ok (.iconst 0, 1) := by decide +kernel
theorem d40_19 : decode (mB m40) 19 = .ok (.putfield 104, 3) := by decide +kernel
theorem d40_22 : decode (mB m40) 22 = .ok (.aload_n 0, 1) := by decide +kernel
theorem d40_23 : decode (mB m40) 23 = .ok (.aload_n 0, 1) := by decide +kernel
theorem d40_24 : decode (mB m40) 24 = .ok (.getfield 40, 3) := by decide +kernel
theorem d40_27 : decode (mB m40) 27 = .ok (.iconst 1, 1) := by decide +kernel
theorem d40_28 : decode (mB m40) 28 = .ok (.isub, 1) := by decide +kernel
theorem d40_29 : decode (mB m40) 29 = .ok (.putfield 107, 3) := by decide +kernel
theorem d40_32 : decode (mB m40) 32 = .ok (.iconst 0, 1) := by decide +kernel
theorem d40_33 : decode (mB m40) 33 = .ok (.istore_n 2, 1) := by decide +kernel
theorem d40_34 : decode (mB m40) 34 = .ok (.iload_n 2, 1) := by decide +kernel
theorem d40_35 : decode (mB m40) 35 = .ok (.bipush 65, 2) := by decide +kernel
theorem d40_37 : decode (mB m40) 37 = .ok (.if_icmp .gt 69, 3) := by decide +kernel
theorem d40_40 : decode (mB m40) 40 = .ok (.aload_n 0, 1) := by decide +kernel
theorem d40_41 : decode (mB m40) 41 = .ok (.invokevirtual 110, 3) := by decide +kernel
theorem d40_44 : decode (mB m40) 44 = .ok (.aload_n 0, 1) := by decide +kernel
theorem d40_45 : decode (mB m40) 45 = .ok (.invokevirtual 113, 3) := by decide +kernel
theorem d40_48 : decode (mB m40) 48 = .ok (.aload_n 0, 1) := by decide +kernel
theorem d40_49 : decode (mB m40) 49 = .ok (.invokevirtual 116, 3) := by decide +kernel
theorem d40_52 : decode (mB m40) 52 = .ok (.ifCond .eq 6, 3) := by decide +kernel
theorem d40_55 : decode (mB m40) 55 = .ok (.goto 51, 3) := by decide +kernel
theorem d40_58 : decode (mB m40) 58 = .ok (.aload_n 0, 1) := by decide +kernel
theorem d40_59 : decode (mB m40) 59 = .ok (.aload_n 0, 1) := by decide +kernel
theorem d40_60 : decode (mB m40) 60 = .ok (.getfield 104, 3) := by decide +kernel
theorem d40_63 : decode (mB m40) 63 = .ok (.aload_n 0, 1) := by decide +kernel
theorem d40_64 : decode (mB m40) 64 = .ok (.getfield 107, 3) := by decide +kernel
theorem d40_67 : decode (mB m40) 67 = .ok (.invokevirtual 120, 3) := by decide +kernel
theorem d40_70 : decode (mB m40) 70 = .ok (.aload_n 0, 1) := by decide +kernel
theorem d40_71 : decode (mB m40) 71 = .ok (.aload_n 0, 1) := by decide +kernel
theorem d40_72 : decode (mB m40) 72 = .ok (.getfield 101, 3) := by decide +kernel
theorem d40_75 : decode (mB m40) 75 = .ok (.iconst 1, 1) := by decide +kernel
theorem d40_76 : decode (mB m40) 76 = .ok (.iadd, 1) := by decide +kernel
theorem d40_77 : decode (mB m40) 77 = .ok (.putfield 101, 3) := by decide +kernel
theorem d40_80 : decode (mB m40) 80 = .ok (.aload_n 0, 1) := by decide +kernel
theorem d40_81 : decode (mB m40) 81 = .ok (.aload_n 0, 1) := by decide +kernel
theorem d40_82 : decode (mB m40) 82 = .ok (.getfield 104, 3) := by decide +kernel
theorem d40_85 : decode (mB m40) 85 = .ok (.iconst 1, 1) := by decide +kernel
theorem d40_86 : decode (mB m40) 86 = .ok (.iadd, 1) := by decide +kernel
theorem d40_87 : decode (mB m40) 87 = .ok (.putfield 104, 3) := by decide +kernel
theorem d40_90 : decode (mB m40) 90 = .ok (.aload_n 0, 1) := by decide +kernel
theorem d40_91 : decode (mB m40) 91 = .ok (.aload_n 0, 1) := by decide +kernel
theorem d40_92 : decode (mB m40) 92 = .ok (.getfield 107, 3) := by decide +kernel
theorem d40_95 : decode (mB m40) 95 = .ok (.iconst 1, 1) := by decide +kernel
theorem d40_96 : decode (mB m40) 96 = .ok (.isub, 1) := by decide +kernel
theorem d40_97 : decode (mB m40) 97 = .ok (.putfield 107, 3) := by decide +kernel
theorem d40_100 : decode (mB m40) 100 = .ok (.iinc 2 1, 3) := by decide +kernel
theorem d40_103 : decode (mB m40) 103 = .ok (.goto (-69), 3) := by decide +kernel
theorem d40_106 : decode (mB m40) 106 = .ok (.aload_n 0, 1) := by decide +kernel
theorem d40_107 : decode (mB m40) 107 = .ok (.getfield 101, 3) := by decide +kernel
theorem d40_110 : decode (mB m40) 110 = .ok (.ireturn, 1) := by decide +kernel
theorem d41_0 : decode (mB m41) 0 = .ok (.iload_n 2, 1) := by decide +kernel
theorem d41_1 : decode (mB m41) 1 = .ok (.iconst 3, 1) := by decide +kernel
theorem d41_2 : decode (mB m41) 2 = .ok (.iand, 1) := by decide +kernel
theorem d41_3 : decode (mB m41) 3 = .ok (.istore 7, 2) := by decide +kernel
theorem d41_5 : decode (mB m41) 5 = .ok (.iload_n 3, 1) := by decide +kernel
theorem d41_6 : decode (mB m41) 6 = .ok (.iload 5, 2) := by decide +kernel
theorem d41_8 : decode (mB m41) 8 = .ok (.invokestatic 7, 3) := by decide +kernel
theorem d41_11 : decode (mB m41) 11 = .ok (.istore 8, 2) := by decide +kernel
theorem d41_13 : decode (mB m41) 13 = .ok (.iload_n 1, 1) := by decide +kernel
theorem d41_14 : decode (mB m41) 14 = .ok (.ifCond .eq 8, 3) := by decide +kernel
theorem d41_17 : decode (mB m41) 17 = .ok (.iload_n 1, 1) := by decide +kernel
theorem d41_18 : decode (mB m41) 18 = .ok (.iconst 1, 1) := by decide +kernel
theorem d41_19 : decode (mB m41) 19 = .ok (.if_icmp .ne 17, 3) := by decide +kernel
theorem d41_22 : decode (mB m41) 22 = .ok (.aload_n 0, 1) := by decide +kernel
theorem d41_23 : decode (mB m41) 23 = .ok (.iload 7, 2) := by decide +kernel
theorem d41_25 : decode (mB m41) 25 = .ok (.iload 8, 2) := by decide +kernel
theorem d41_27 : decode (mB m41) 27 = .ok (.iload 4, 2) := by decide +kernel
theorem d41_29 : decode (mB m41) 29 = .ok (.invokevirtual 13, 3) := by decide +kernel
theorem d41_32 : decode (mB m41) 32 = .ok (.pop, 1) := by decide +kernel
theorem d41_33 : decode (mB m41) 33 = .ok (.goto 191, 3) := by decide +kernel
theorem d41_36 : decode (mB m41) 36 = .ok (.iload_n 1, 1) := by decide +kernel
theorem d41_37 : decode (mB m41) 37 = .ok (.iconst 2, 1) := by decide +kernel
theorem d41_38 : decode (mB m41) 38 = .ok (.if_icmp .ne 28, 3) := by decide +kernel
theorem d41_41 : decode (mB m41) 41 = .ok (.aload_n 0, 1) := by decide +kernel
theorem d41_42 : decode (mB m41) 42 = .ok (.iload 7, 2) := by decide +kernel
theorem d41_44 : decode (mB m41) 44 = .ok (.iload 8, 2) := by decide +kernel
theorem d41_46 : decode (mB m41) 46 = .ok (.iload 4, 2) := by decide +kernel
theorem d41_48 : decode (mB m41) 48 = .ok (.iconst 3, 1) := by decide +kernel
theorem d41_49 : decode (mB m41) 49 = .ok (.iand, 1) := by decide +kernel
theorem d41_50 : decode (mB m41) 50 = .ok (.iload 4, 2) := by decide +kernel
theorem d41_52 : decode (mB m41) 52 = .ok (.iconst 2, 1) := by decide +kernel
theorem d41_53 : decode (mB m41) 53 = .ok (.iushr, 1) := by decide +kernel
theorem d41_54 : decode (mB m41) 54 = .ok (.iload 5, 2) := by decide +kernel
theorem d41_56 : decode (mB m41) 56 = .ok (.invokestatic 7, 3) := by decide +kernel
theorem d41_59 : decode (mB m41) 59 = .ok (.invokevirtual 19, 3) := by decide +kernel
theorem d41_62 : decode (mB m41) 62 = .ok (.pop, 1) := by decide +kernel
theorem d41_63 : decode (mB m41) 63 = .ok (.goto 161, 3) := by decide +kernel
theorem d41_66 : decode (mB m41) 66 = .ok (.iload_n 1, 1) := by decide +kernel
theorem d41_67 : decode (mB m41) 67 = .ok (.iconst 3, 1) := by decide +kernel
theorem d41_68 : decode (mB m41) 68 = .ok (.if_icmp .ne 15, 3) := by decide +kernel
theorem d41_71 : decode (mB m41) 71 = .ok (.aload_n 0, 1) := by decide +kernel
theorem d41_72 : decode (mB m41) 72 = .ok (.iload 7, 2) := by decide +kernel
theorem d41_74 : decode (mB m41) 74 = .ok (.iload 8, 2) := by decide +kernel
theorem d41_76 : decode (mB m41) 76 = .ok (.invokevirtual 23, 3) := by decide +kernel
theorem d41_79 : decode (mB m41) 79 = .ok (.pop, 1) := by decide +kernel
theorem d41_80 : decode (mB m41) 80 = .ok (.goto 144, 3) := by decide +kernel
theorem d41_83 : decode (mB m41) 83 = .ok (.iload_n 1, 1) := by decide +kernel
theorem d41_84 : decode (mB m41) 84 = .ok (.iconst 4, 1) := by decide +kernel
theorem d41_85 : decode (mB m41) 85 = .ok (.if_icmp .ne 17, 3) := by decide +kernel
theorem d41_88 : decode (mB m41) 88 = .ok (.aload_n 0, 1) := by decide +kernel
theorem d41_89 : decode (mB m41) 89 = .ok (.iload 7, 2) := by decide +kernel
theorem d41_91 : decode (mB m41) 91 = .ok (.iload 8, 2) := by decide +kernel
theorem d41_93 : decode (mB m41) 93 = .ok (.iload 4, 2) := by decide +kernel
theorem d41_95 : decode (mB m41) 95 = .ok (.invokevirtual 26, 3) := by decide +kernel
theorem d41_98 : decode (mB m41) 98 = .ok (.pop, 1) := by decide +kernel
theorem d41_99 : decode (mB m41) 99 = .ok (.goto 125, 3) := by decide +kernel
theorem d41_102 : decode (mB m41) 102 = .ok (.iload_n 1, 1) := by decide +kernel
theorem d41_103 : decode (mB m41) 103 = .ok (.iconst 5, 1) := by decide +kernel
theorem d41_104 : decode (mB m41) 104 = .ok (.if_icmp .ne 19, 3) := by decide +kernel
theorem d41_107 : decode (mB m41) 107 = .ok (.aload_n 0, 1) := by decide +kernel
theorem d41_108 : decode (mB m41) 108 = .ok (.aload_n 0, 1) := by decide +kernel
theorem d41_109 : decode (mB m41) 109 = .ok (.iload 7, 2) := by decide +kernel
theorem d41_111 : decode (mB m41) 111 = .ok (.iload 8, 2) := by decide +kernel
theorem d41_113 : decode (mB m41) 113 = .ok (.invokevirtual 30, 3) := by decide +kernel
theorem d41_116 : decode (mB m41) 116 = .ok (.invokevirtual 33, 3) := by decide +kernel
theorem d41_119 : decode (mB m41) 119 = .ok (.pop, 1) := by decide +kernel
theorem d41_120 : decode (mB m41) 120 = .ok (.goto 104, 3) := by decide +kernel
theorem d41_123 : decode (mB m41) 123 = .ok (.iload_n 1, 1) := by decide +kernel
theorem d41_124 : decode (mB m41) 124 = .ok (.bipush 6, 2) := by decide +kernel
theorem d41_126 : decode (mB m41) 126 = .ok (.if_icmp .ne 39, 3) := by decide +kernel
theorem d41_129 : decode (mB m41) 129 = .ok (.iload_n 2, 1) := by decide +kernel
theorem d41_130 : decode (mB m41) 130 = .ok (.iconst 4, 1) := by decide +kernel
theorem d41_131 : decode (mB m41) 131 = .ok (.iand, 1) := by decide +kernel
theorem d41_132 : decode (mB m41) 132 = .ok (.ifCond .ne 19, 3) := by decide +kernel
theorem d41_135 : decode (mB m41) 135 = .ok (.aload_n 0, 1) := by decide +kernel
theorem d41_136 : decode (mB m41) 136 = .ok (.aload_n 0, 1) := by decide +kernel
theorem d41_137 : decode (mB m41) 137 = .ok (.iload 7, 2) := by decide +kernel
theorem d41_139 : decode (mB m41) 139 = .ok (.iload 8, 2) := by decide +kernel
theorem d41_141 : decode (mB m41) 141 = .ok (.invokevirtual 30, 3) := by decide +kernel
theorem d41_144 : decode (mB m41) 144 = .ok (.invokevirtual 37, 3) := by decide +kernel
theorem d41_147 : decode (mB m41) 147 = .ok (.pop, 1) := by decide +kernel
theorem d41_148 : decode (mB m41) 148 = .ok (.goto 76, 3) := by decide +kernel
theorem d41_151 : decode (mB m41) 151 = .ok (.aload_n 0, 1) := by decide +kernel
theorem d41_152 : decode (mB m41) 152 = .ok (.iload_n 3, 1) := by decide +kernel
theorem d41_153 : decode (mB m41) 153 = .ok (.iload 6, 2) := by decide +kernel
theorem d41_155 : decode (mB m41) 155 = .ok (.invokestatic 7, 3) := by decide +kernel
theorem d41_158 : decode (mB m41) 158 = .ok (.invokevirtual 40, 3) := by decide +kernel
theorem d41_161 : decode (mB m41) 161 = .ok (.pop, 1) := by decide +kernel
theorem d41_162 : decode (mB m41) 162 = .ok (.goto 62, 3) := by decide +kernel
theorem d41_165 : decode (mB m41) 165 = .ok (.iload_n 2, 1) := by decide +kernel
theorem d41_166 : decode (mB m41) 166 = .ok (.iconst 2, 1) := by decide +kernel
theorem d41_167 : decode (mB m41) 167 = .ok (.ishr, 1) := by decide +kernel
theorem d41_168 : decode (mB m41) 168 = .ok (.iconst 3, 1) := by decide +kernel
theorem d41_169 : decode (mB m41) 169 = .ok (.invokestatic 7, 3) := by decide +kernel
theorem d41_172 : decode (mB m41) 172 = .ok (.istore 9, 2) := by decide +kernel
theorem d41_174 : decode (mB m41) 174 = .ok (.iload 9, 2) := by decide +kernel
theorem d41_176 : decode (mB m41) 176 = .ok (.ifCond .ne 16, 3) := by decide +kernel
theorem d41_179 : decode (mB m41) 179 = .ok (.aload_n 0, 1) := by decide +kernel
theorem d41_180 : decode (mB m41) 180 = .ok (.iload_n 3, 1) := by decide +kernel
theorem d41_181 : decode (mB m41) 181 = .ok (.iconst 4, 1) := by decide +kernel
theorem d41_182 : decode (mB m41) 182 = .ok (.invokestatic 7, 3) := by decide +kernel
theorem d41_185 : decode (mB m41) 185 = .ok (.invokevirtual 43, 3) := by decide +kernel
theorem d41_188 : decode (mB m41) 188 = .ok (.pop, 1) := by decide +kernel
theorem d41_189 : decode (mB m41) 189 = .ok (.goto 35, 3) := by decide +kernel
theorem d41_192 : decode (mB m41) 192 = .ok (.iload 9, 2) := by decide +kernel
theorem d41_194 : decode (mB m41) 194 = .ok (.iconst 1, 1) := by decide +kernel
theorem d41_195 : decode (mB m41) 195 = .ok (.if_icmp .ne 18, 3) := by decide +kernel
theorem d41_198 : decode (mB m41) 198 = .ok (.aload_n 0, 1) := by decide +kernel
theorem d41_199 : decode (mB m41) 199 = .ok (.iload 4, 2) := by decide +kernel
theorem d41_201 : decode (mB m41) 201 = .ok (.bipush 8, 2) := by decide +kernel
theorem d41_203 : decode (mB m41) 203 = .ok (.invokestatic 7, 3) := by decide +kernel
theorem d41_206 : decode (mB m41) 206 = .ok (.invokevirtual 47, 3) := by decide +kernel
theorem d41_209 : decode (mB m41) 209 = .ok (.pop, 1) := by decide +kernel
theorem d41_210 : decode (mB m41) 210 = .ok (.goto 14, 3) := by decide +kernel
theorem d41_213 : decode (mB m41) 213 = .ok (.aload_n 0, 1) := by decide +kernel
theorem d41_214 : decode (mB m41) 214 = .ok (.iload_n 3, 1) := by decide +kernel
theorem d41_215 : decode (mB m41) 215 = .ok (.iload 6, 2) := by decide +kernel
theorem d41_217 : decode (mB m41) 217 = .ok (.invokestatic 7, 3) := by decide +kernel
theorem d41_220 : decode (mB m41) 220 = .ok (.invokevirtual 40, 3) := by decide +kernel
theorem d41_223 : decode (mB m41) 223 = .ok (.pop, 1) := by decide +kernel
theorem d41_224 : decode (mB m41) 224 = .ok (.return_, 1) := by decide +kernel
theorem d42_0 : decode (mB m42) 0 = .ok (.lload_n 1, 1) := by decide +kernel
theorem d42_1 : decode (mB m42) 1 = .ok (.lload_n 1, 1) := by decide +kernel
theorem d42_2 : decode (mB m42) 2 = .ok (.iconst 1, 1) := by decide +kernel
theorem d42_3 : decode (mB m42) 3 = .ok (.lushr, 1) := by decide +kernel
theorem d42_4 : decode (mB m42) 4 = .ok (.ldc2_w 162, 3) := by decide +kernel
theorem d42_7 : decode (mB m42) 7 = .ok (.land, 1) := by decide +kernel
theorem d42_8 : decode (mB m42) 8 = .ok (.lsub, 1) := by decide +kernel
theorem d42_9 : decode (mB m42) 9 = .ok (.lstore_n 3, 1) := by decide +kernel
theorem d42_10 : decode (mB m42) 10 = .ok (.lload_n 3, 1) := by decide +kernel
theorem d42_11 : decode (mB m42) 11 = .ok (.ldc2_w 192, 3) := by decide +kernel
theorem d42_14 : decode (mB m42) 14 = .ok (.land, 1) := by decide +kernel
theorem d42_15 : decode (mB m42) 15 = .ok (.lload_n 3, 1) := by decide +kernel
theorem d42_16 : decode (mB m42) 16 = .ok (.iconst 2, 1) := by decide +kernel
theorem d42_17 : decode (mB m42) 17 = .ok (.lushr, 1) := by decide +kernel
theorem d42_18 : decode (mB m42) 18 = .ok (.ldc2_w 192, 3) := by decide +kernel
theorem d42_21 : decode (mB m42) 21 = .ok (.land, 1) := by decide +kernel
theorem d42_22 : decode (mB m42) 22 = .ok (.ladd, 1) := by decide +kernel
theorem d42_23 : decode (mB m42) 23 = .ok (.lstore_n 3, 1) := by decide +kernel
theorem d42_24 : decode (mB m42) 24 = .ok (.lload_n 3, 1) := by decide +kernel
theorem d42_25 : decode (mB m42) 25 = .ok (.lload_n 3, 1) := by decide +kernel
theorem d42_26 : decode (mB m42) 26 = .ok (.iconst 4, 1) := by decide +kernel
theorem d42_27 : decode (mB m42) 27 = .ok (.lushr, 1) := by decide +kernel
theorem d42_28 : decode (mB m42) 28 = .ok (.ladd, 1) := by decide +kernel
theorem d42_29 : decode (mB m42) 29 = .ok (.ldc2_w 194, 3) := by decide +kernel
theorem d42_32 : decode (mB m42) 32 = .ok (.land, 1) := by decide +kernel
theorem d42_33 : decode (mB m42) 33 = .ok (.lstore_n 3, 1) := by decide +kernel
theorem d42_34 : decode (mB m42) 34 = .ok (.lload_n 3, 1) := by decide +kernel
theorem d42_35 : decode (mB m42) 35 = .ok (.ldc2_w 166, 3) := by decide +kernel
theorem d42_38 : decode (mB m42) 38 = .ok (.lmul, 1) := by decide +kernel
theorem d42_39 : decode (mB m42) 39 = .ok (.bipush 56, 2) := by decide +kernel
theorem d42_41 : decode (mB m42) 41 = .ok (.lushr, 1) := by decide +kernel
theorem d42_42 : decode (mB m42) 42 = .ok (.l2i, 1) := by decide +kernel
theorem d42_43 : decode (mB m42) 43 = .ok (.ireturn, 1) := by decide +kernel
theorem d43_0 : decode (mB m43) 0 = .ok (.aload_n 0, 1) := by decide +kernel
theorem d43_1 : decode (mB m43) 1 = .ok (.aload_n 0, 1) := by decide +kernel
theorem d43_2 : decode (mB m43) 2 = .ok (.getfield 54, 3) := by decide +kernel
theorem d43_5 : decode (mB m43) 5 = .ok (.invokevirtual 123, 3) := by decide +kernel
theorem d43_8 : decode (mB m43) 8 = .ok (.ireturn, 1) := by decide +kernel
theorem d44_0 : decode (mB m44) 0 = .ok (.aload_n 0, 1) := by decide +kernel
theorem d44_1 : decode (mB m44) 1 = .ok (.iload_n 1, 1) := by decide +kernel
theorem d44_2 : decode (mB m44) 2 = .ok (.iload_n 2, 1) := by decide +kernel
theorem d44_3 : decode (mB m44) 3 = .ok (.invokevirtual 88, 3) := by decide +kernel
theorem d44_6 : decode (mB m44) 6 = .ok (.istore_n 3, 1) := by decide +kernel
theorem d44_7 : decode (mB m44) 7 = .ok (.iload_n 3, 1) := by decide +kernel
theorem d44_8 : decode (mB m44) 8 = .ok (.ifCond .ge 5, 3) := by decide +kernel
theorem d44_11 : decode (mB m44) 11 = .ok (.iconst 0, 1) := by decide +kernel
theorem d44_12 : decode (mB m44) 12 = .ok (.ireturn, 1) := by decide +kernel
theorem d44_13 : decode (mB m44) 13 = .ok (.aload_n 0, 1) := by decide +kernel
theorem d44_14 : decode (mB m44) 14 = .ok (.getfield 13, 3) := by decide +kernel
theorem d44_17 : decode (mB m44) 17 = .ok (.iload_n 3, 1) := by decide +kernel
theorem d44_18 : decode (mB m44) 18 = .ok (.iaload, 1) := by decide +kernel
theorem d44_19 : decode (mB m44) 19 = .ok (.ireturn, 1) := by decide +kernel
theorem d45_0 : decode (mB m45) 0 = .ok (.aload_n 0, 1) := by decide +kernel
theorem d45_1 : decode (mB m45) 1 = .ok (.iload_n 1, 1) := by decide +kernel
theorem d45_2 : decode (mB m45) 2 = .ok (.invokevirtual 62, 3) := by decide +kernel
theorem d45_5 : decode (mB m45) 5 = .ok (.ifCond .ne 5, 3) := by decide +kernel
theorem d45_8 : decode (mB m45) 8 = .ok (.iconst (-1), 1) := by decide +kernel
theorem d45_9 : decode (mB m45) 9 = .ok (.ireturn, 1) := by decide +kernel
theorem d45_10 : decode (mB m45) 10 = .ok (.aload_n 0, 1) := by decide +kernel
theorem d45_11 : decode (mB m45) 11 = .ok (.getfield 7, 3) := by decide +kernel
theorem d45_14 : decode (mB m45) 14 = .ok (.iload_n 1, 1) := by decide +kernel
theorem d45_15 : decode (mB m45) 15 = .ok (.baload, 1) := by decide +kernel
theorem d45_16 : decode (mB m45) 16 = .ok (.ireturn, 1) := by decide +kernel
theorem d46_0 : decode (mB m46) 0 = .ok (.aload_n 0, 1) := by decide +kernel
theorem d46_1 : decode (mB m46) 1 = .ok (.iload_n 1, 1) := by decide +kernel
theorem d46_2 : decode (mB m46) 2 = .ok (.invokevirtual 62, 3) := by decide +kernel
theorem d46_5 : decode (mB m46) 5 = .ok (.ifCond .ne 5, 3) := by decide +kernel
theorem d46_8 : decode (mB m46) 8 = .ok (.iconst 0, 1) := by decide +kernel
theorem d46_9 : decode (mB m46) 9 = .ok (.ireturn, 1) := by decide +kernel
theorem d46_10 : decode (mB m46) 10 = .ok (.aload_n 0, 1) := by decide +kernel
theorem d46_11 : decode (mB m46) 11 = .ok (.getfield 7, 3) := by decide +kernel
theorem d46_14 : decode (mB m46) 14 = .ok (.iload_n 1, 1) := by decide +kernel
theorem d46_15 : decode (mB m46) 15 = .ok (.baload, 1) := by decide +kernel
theorem d46_16 : decode (mB m46) 16 = .ok (.istore_n 2, 1) := by decide +kernel
theorem d46_17 : decode (mB m46) 17 = .ok (.iload_n 2, 1) := by decide +kernel
theorem d46_18 : decode (mB m46) 18 = .ok (.ifCond .eq 8, 3) := by decide +kernel
theorem d46_21 : decode (mB m46) 21 = .ok (.iload_n 2, 1) := by decide +kernel
theorem d46_22 : decode (mB m46) 22 = .ok (.iconst 3, 1) := by decide +kernel
theorem d46_23 : decode (mB m46) 23 = .ok (.if_icmp .ne 5, 3) := by decide +kernel
theorem d46_26 : decode (mB m46) 26 = .ok (.iconst 0, 1) := by decide +kernel
theorem d46_27 : decode (mB m46) 27 = .ok (.ireturn, 1) := by decide +kernel
theorem d46_28 : decode (mB m46) 28 = .ok (.aload_n 0, 1) := by decide +kernel
theorem d46_29 : decode (mB m46) 29 = .ok (.getfield 13, 3) := by decide +kernel
theorem d46_32 : decode (mB m46) 32 = .ok (.iload_n 1, 1) := by decide +kernel
theorem d46_33 : decode (mB m46) 33 = .ok (.iaload, 1) := by decide +kernel
theorem d46_34 : decode (mB m46) 34 = .ok (.ireturn, 1) := by decide +kernel
theorem d47_0 : decode (mB m47) 0 = .ok (.aload_n 0, 1) := by decide +kernel
theorem d47_1 : decode (mB m47) 1 = .ok (.iload_n 1, 1) := by decide +kernel
theorem d47_2 : decode (mB m47) 2 = .ok (.invokevirtual 62, 3) := by decide +kernel
theorem d47_5 : decode (mB m47) 5 = .ok (.ifCond .ne 5, 3) := by decide +kernel
theorem d47_8 : decode (mB m47) 8 = .ok (.iconst 0, 1) := by decide +kernel
theorem d47_9 : decode (mB m47) 9 = .ok (.ireturn, 1) := by decide +kernel
theorem d47_10 : decode (mB m47) 10 = .ok (.aload_n 0, 1) := by decide +kernel
theorem d47_11 : decode (mB m47) 11 = .ok (.getfield 17, 3) := by decide +kernel
theorem d47_14 : decode (mB m47) 14 = .ok (.iload_n 1, 1) := by decide +kernel
theorem d47_15 : decode (mB m47) 15 = .ok (.iaload, 1) := by decide +kernel
theorem d47_16 : decode (mB m47) 16 = .ok (.ireturn, 1) := by decide +kernel
theorem d48_0 : decode (mB m48) 0 = .ok (.bipush 8, 2) := by decide +kernel
theorem d48_2 : decode (mB m48) 2 = .ok (.aload_n 0, 1) := by decide +kernel
theorem d48_3 : decode (mB m48) 3 = .ok (.iconst 0, 1) := by decide +kernel
theorem d48_4 : decode (mB m48) 4 = .ok (.invokestatic 50, 3) := by decide +kernel
theorem d48_7 : decode (mB m48) 7 = .ok (.bipush 57, 2) := by decide +kernel
theorem d48_9 : decode (mB m48) 9 = .ok (.invokestatic 7, 3) := by decide +kernel
theorem d48_12 : decode (mB m48) 12 = .ok (.iadd, 1) := by decide +kernel
theorem d48_13 : decode (mB m48) 13 = .ok (.istore_n 1, 1) := by decide +kernel
theorem d48_14 : decode (mB m48) 14 = .ok (.iconst 4, 1) := by decide +kernel
theorem d48_15 : decode (mB m48) 15 = .ok (.aload_n 0, 1) := by decide +kernel
theorem d48_16 : decode (mB m48) 16 = .ok (.iconst 1, 1) := by decide +kernel
theorem d48_17 : decode (mB m48) 17 = .ok (.invokestatic 50, 3) := by decide +kernel
theorem d48_20 : decode (mB m48) 20 = .ok (.bipush 13, 2) := by decide +kernel
theorem d48_22 : decode (mB m48) 22 = .ok (.invokestatic 7, 3) := by decide +kernel
theorem d48_25 : decode (mB m48) 25 = .ok (.iadd, 1) := by decide +kernel
theorem d48_26 : decode (mB m48) 26 = .ok (.istore_n 2, 1) := by decide +kernel
theorem d48_27 : decode (mB m48) 27 = .ok (.aload_n 0, 1) := by decide +kernel
theorem d48_28 : decode (mB m48) 28 = .ok (.iconst 2, 1) := by decide +kernel
theorem d48_29 : decode (mB m48) 29 = .ok (.invokestatic 50, 3) := by decide +kernel
theorem d48_32 : decode (mB m48) 32 = .ok (.bipush 80, 2) := by decide +kernel
theorem d48_34 : decode (mB m48) 34 = .ok (.invokestatic 7, 3) := by decide +kernel
theorem d48_37 : decode (mB m48) 37 = .ok (.bipush 8, 2) := by decide +kernel
theorem d48_39 : decode (mB m48) 39 = .ok (.isub, 1) := by decide +kernel
theorem d48_40 : decode (mB m48) 40 = .ok (.istore_n 3, 1) := by decide +kernel
theorem d48_41 : decode (mB m48) 41 = .ok (.new 14, 3) := by decide +kernel
theorem d48_44 : decode (mB m48) 44 = .ok (.dup, 1) := by decide +kernel
theorem d48_45 : decode (mB m48) 45 = .ok (.iload_n 1, 1) := by decide +kernel
theorem d48_46 : decode (mB m48) 46 = .ok (.iload_n 2, 1) := by decide +kernel
theorem d48_47 : decode (mB m48) 47 = .ok (.invokespecial 54, 3) := by decide +kernel
theorem d48_50 : decode (mB m48) 50 = .ok (.astore 4, 2) := by decide +kernel
theorem d48_52 : decode (mB m48) 52 = .ok (.new 14, 3) := by decide +kernel
theorem d48_55 : decode (mB m48) 55 = .ok (.dup, 1) := by decide +kernel
theorem d48_56 : decode (mB m48) 56 = .ok (.iload_n 1, 1) := by decide +kernel
theorem d48_57 : decode (mB m48) 57 = .ok (.iload_n 2, 1) := by decide +kernel
theorem d48_58 : decode (mB m48) 58 = .ok (.invokespecial 54, 3) := by decide +kernel
theorem d48_61 : decode (mB m48) 61 = .ok (.astore 5, 2) := by decide +kernel
theorem d48_63 : decode (mB m48) 63 = .ok (.iconst 3, 1) := by decide +kernel
theorem d48_64 : decode (mB m48) 64 = .ok (.istore 6, 2) := by decide +kernel
theorem d48_66 : decode (mB m48) 66 = .ok (.iload 6, 2) := by decide +kernel
theorem d48_68 : decode (mB m48) 68 = .ok (.aload_n 0, 1) := by decide +kernel
theorem d48_69 : decode (mB m48) 69 = .ok (.arraylength, 1) := by decide +kernel
theorem d48_70 : decode (mB m48) 70 = .ok (.if_icmp .ge 82, 3) := by decide +kernel
theorem d48_73 : decode (mB m48) 73 = .ok (.aload_n 0, 1) := by decide +kernel
theorem d48_74 : decode (mB m48) 74 = .ok (.iload 6, 2) := by decide +kernel
theorem d48_76 : decode (mB m48) 76 = .ok (.invokestatic 50, 3) := by decide +kernel
theorem d48_79 : decode (mB m48) 79 = .ok (.bipush 8, 2) := by decide +kernel
theorem d48_81 : decode (mB m48) 81 = .ok (.invokestatic 7, 3) := by decide +kernel
theorem d48_84 : decode (mB m48) 84 = .ok (.istore 7, 2) := by decide +kernel
theorem d48_86 : decode (mB m48) 86 = .ok (.aload_n 0, 1) := by decide +kernel
theorem d48_87 : decode (mB m48) 87 = .ok (.iload 6, 2) := by decide +kernel
theorem d48_89 : decode (mB m48) 89 = .ok (.iconst 1, 1) := by decide +kernel
theorem d48_90 : decode (mB m48) 90 = .ok (.iadd, 1) := by decide +kernel
theorem d48_91 : decode (mB m48) 91 = .ok (.invokestatic 50, 3) := by decide +kernel
theorem d48_94 : decode (mB m48) 94 = .ok (.istore 8, 2) := by decide +kernel
theorem d48_96 : decode (mB m48) 96 = .ok (.aload_n 0, 1) := by decide +kernel
theorem d48_97 : decode (mB m48) 97 = .ok (.iload 6, 2) := by decide +kernel
theorem d48_99 : decode (mB m48) 99 = .ok (.iconst 2, 1) := by decide +kernel
theorem d48_100 : decode (mB m48) 100 = .ok (.iadd, 1) := by decide +kernel
theorem d48_101 : decode (mB m48) 101 = .ok (.invokestatic 50, 3) := by decide +kernel
theorem d48_104 : decode (mB m48) 104 = .ok (.istore 9, 2) := by decide +kernel
theorem d48_106 : decode (mB m48) 106 = .ok (.aload_n 0, 1) := by decide +kernel
theorem d48_107 : decode (mB m48) 107 = .ok (.iload 6, 2) := by decide +kernel
theorem d48_109 : decode (mB m48) 109 = .ok (.iconst 3, 1) := by decide +kernel
theorem d48_110 : decode (mB m48) 110 = .ok (.iadd, 1) := by decide +kernel
theorem d48_111 : decode (mB m48) 111 = .ok (.invokestatic 50, 3) := by decide +kernel
theorem d48_114 : decode (mB m48) 114 = .ok (.istore 10, 2) := by decide +kernel
theorem d48_116 : decode (mB m48) 116 = .ok (.aload 4, 2) := by decide +kernel
theorem d48_118 : decode (mB m48) 118 = .ok (.iload 7, 2) := by decide +kernel
theorem d48_120 : decode (mB m48) 120 = .ok (.iload 8, 2) := by decide +kernel
theorem d48_122 : decode (mB m48) 122 = .ok (.iload 9, 2) := by decide +kernel
theorem d48_124 : decode (mB m48) 124 = .ok (.iload 10, 2) := by decide +kernel
theorem d48_126 : decode (mB m48) 126 = .ok (.iload_n 2, 1) := by decide +kernel
theorem d48_127 : decode (mB m48) 127 = .ok (.iload_n 1, 1) := by decide +kernel
theorem d48_128 : decode (mB m48) 128 = .ok (.invokestatic 57, 3) := by decide +kernel
theorem d48_131 : decode (mB m48) 131 = .ok (.aload 5, 2) := by decide +kernel
theorem d48_133 : decode (mB m48) 133 = .ok (.iload 7, 2) := by decide +kernel
theorem d48_135 : decode (mB m48) 135 = .ok (.iload 8, 2) := by decide +kernel
theorem d48_137 : decode (mB m48) 137 = .ok (.iload 9, 2) := by decide +kernel
theorem d48_139 : decode (mB m48) 139 = .ok (.iload 10, 2) := by decide +kernel
theorem d48_141 : decode (mB m48) 141 = .ok (.iload_n 2, 1) := by decide +kernel
theorem d48_142 : decode (mB m48) 142 = .ok (.iload_n 1, 1) := by decide +kernel
theorem d48_143 : decode (mB m48) 143 = .ok (.invokestatic 57, 3) := by decide +kernel
theorem d48_146 : decode (mB m48) 146 = .ok (.iinc 6 4, 3) := by decide +kernel
theorem d48_149 : decode (mB m48) 149 = .ok (.goto (-83), 3) := by decide +kernel
theorem d48_152 : decode (mB m48) 152 = .ok (.aload 4, 2) := by decide +kernel
theorem d48_154 : decode (mB m48) 154 = .ok (.iload_n 3, 1) := by decide +kernel
theorem d48_155 : decode (mB m48) 155 = .ok (.invokevirtual 47, 3) := by decide +kernel
theorem d48_158 : decode (mB m48) 158 = .ok (.istore 6, 2) := by decide +kernel
theorem d48_160 : decode (mB m48) 160 = .ok (.iload_n 3, 1) := by decide +kernel
theorem d48_161 : decode (mB m48) 161 = .ok (.ifCond .ge 7, 3) := by decide +kernel
theorem d48_164 : decode (mB m48) 164 = .ok (.iconst 0, 1) := by decide +kernel
theorem d48_165 : decode (mB m48) 165 = .ok (.goto 15, 3) := by decide +kernel
theorem d48_168 : decode (mB m48) 168 = .ok (.iload_n 3, 1) := by decide +kernel
theorem d48_169 : decode (mB m48) 169 = .ok (.bipush 64, 2) := by decide +kernel
theorem d48_171 : decode (mB m48) 171 = .ok (.if_icmp .le 8, 3) := by decide +kernel
theorem d48_174 : decode (mB m48) 174 = .ok (.bipush 64, 2) := by decide +kernel
theorem d48_176 : decode (mB m48) 176 = .ok (.goto 4, 3) := by decide +kernel
theorem d48_179 : decode (mB m48) 179 = .ok (.iload_n 3, 1) := by decide +kernel
theorem d48_180 : decode (mB m48) 180 = .ok (.istore 7, 2) := by decide +kernel
theorem d48_182 : decode (mB m48) 182 = .ok (.iload 6, 2) := by decide +kernel
theorem d48_184 : decode (mB m48) 184 = .ok (.ifCond .lt 10, 3) := by decide +kernel
theorem d48_187 : decode (mB m48) 187 = .ok (.iload 6, 2) := by decide +kernel
theorem d48_189 : decode (mB m48) 189 = .ok (.iload 7, 2) := by decide +kernel
theorem d48_191 : decode (mB m48) 191 = .ok (.if_icmp .le 5, 3) := by decide +kernel
theorem d48_194 : decode (mB m48) 194 = .ok (.iconst 0, 1) := by decide +kernel
theorem d48_195 : decode (mB m48) 195 = .ok (.ireturn, 1) := by decide +kernel
theorem d48_196 : decode (mB m48) 196 = .ok (.aload 4, 2) := by decide +kernel
theorem d48_198 : decode (mB m48) 198 = .ok (.invokevirtual 61, 3) := by decide +kernel
theorem d48_201 : decode (mB m48) 201 = .ok (.aload 5, 2) := by decide +kernel
theorem d48_203 : decode (mB m48) 203 = .ok (.invokevirtual 61, 3) := by decide +kernel
theorem d48_206 : decode (mB m48) 206 = .ok (.if_icmp .eq 5, 3) := by decide +kernel
theorem d48_209 : decode (mB m48) 209 = .ok (.iconst 0, 1) := by decide +kernel
theorem d48_210 : decode (mB m48) 210 = .ok (.ireturn, 1) := by decide +kernel
theorem d48_211 : decode (mB m48) 211 = .ok (.iconst 4, 1) := by decide +kernel
theorem d48_212 : decode (mB m48) 212 = .ok (.iload_n 2, 1) := by decide +kernel
theorem d48_213 : decode (mB m48) 213 = .ok (.imul, 1) := by decide +kernel
theorem d48_214 : decode (mB m48) 214 = .ok (.istore 8, 2) := by decide +kernel
theorem d48_216 : decode (mB m48) 216 = .ok (.iconst 0, 1) := by decide +kernel
theorem d48_217 : decode (mB m48) 217 = .ok (.istore 9, 2) := by decide +kernel
theorem d48_219 : decode (mB m48) 219 = .ok (.iload 9, 2) := by decide +kernel
theorem d48_221 : decode (mB m48) 221 = .ok (.iload 8, 2) := by decide +kernel
theorem d48_223 : decode (mB m48) 223 = .ok (.if_icmp .ge 93, 3) := by decide +kernel
theorem d48_226 : decode (mB m48) 226 = .ok (.iload 9, 2) := by decide +kernel
theorem d48_228 : decode (mB m48) 228 = .ok (.iload_n 2, 1) := by decide +kernel
theorem d48_229 : decode (mB m48) 229 = .ok (.idiv, 1) := by decide +kernel
theorem d48_230 : decode (mB m48) 230 = .ok (.istore 10, 2) := by decide +kernel
theorem d48_232 : decode (mB m48) 232 = .ok (.iload 9, 2) := by decide +kernel
theorem d48_234 : decode (mB m48) 234 = .ok (.iload_n 2, 1) := by decide +kernel
theorem d48_235 : decode (mB m48) 235 = .ok (.irem, 1) := by decide +kernel
theorem d48_236 : decode (mB m48) 236 = .ok (.istore 11, 2) := by decide +kernel
theorem d48_238 : decode (mB m48) 238 = .ok (.aload 4, 2) := by decide +kernel
theorem d48_240 : decode (mB m48) 240 = .ok (.iload 10, 2) := by decide +kernel
theorem d48_242 : decode (mB m48) 242 = .ok (.iload 11, 2) := by decide +kernel
theorem d48_244 : decode (mB m48) 244 = .ok (.invokevirtual 65, 3) := by decide +kernel
theorem d48_247 : decode (mB m48) 247 = .ok (.aload 5, 2) := by decide +kernel
theorem d48_249 : decode (mB m48) 249 = .ok (.iload 10, 2) := by decide +kernel
theorem d48_251 : decode (mB m48) 251 = .ok (.iload 11, 2) := by decide +kernel
theorem d48_253 : decode (mB m48) 253 = .ok (.invokevirtual 65, 3) := by decide +kernel
theorem d48_256 : decode (mB m48) 256 = .ok (.if_icmp .eq 5, 3) := by decide +kernel
theorem d48_259 : decode (mB m48) 259 = .ok (.iconst 0, 1) := by decide +kernel
theorem d48_260 : decode (mB m48) 260 = .ok (.ireturn, 1) := by decide +kernel
theorem d48_261 : decode (mB m48) 261 = .ok (.aload 4, 2) := by decide +kernel
theorem d48_263 : decode (mB m48) 263 = .ok (.iload 10, 2) := by decide +kernel
theorem d48_265 : decode (mB m48) 265 = .ok (.iload 11, 2) := by decide +kernel
theorem d48_267 : decode (mB m48) 267 = .ok (.invokevirtual 30, 3) := by decide +kernel
theorem d48_270 : decode (mB m48) 270 = .ok (.iconst (-1), 1) := by decide +kernel
theorem d48_271 : decode (mB m48) 271 = .ok (.if_icmp .eq 7, 3) := by decide +kernel
theorem d48_274 : decode (mB m48) 274 = .ok (.iconst 1, 1) := by decide +kernel
theorem d48_275 : decode (mB m48) 275 = .ok (.goto 4, 3) := by decide +kernel
theorem d48_278 : decode (mB m48) 278 = .ok (.iconst 0, 1) := by decide +kernel
theorem d48_279 : decode (mB m48) 279 = .ok (.istore 12, 2) := by decide +kernel
theorem d48_281 : decode (mB m48) 281 = .ok (.aload 5, 2) := by decide +kernel
theorem d48_283 : decode (mB m48) 283 = .ok (.iload 10, 2) := by decide +kernel
theorem d48_285 : decode (mB m48) 285 = .ok (.iload 11, 2) := by decide +kernel
theorem d48_287 : decode (mB m48) 287 = .ok (.invokevirtual 30, 3) := by decide +kernel
theorem d48_290 : decode (mB m48) 290 = .ok (.iconst (-1), 1) := by decide +kernel
theorem d48_291 : decode (mB m48) 291 = .ok (.if_icmp .eq 7, 3) := by decide +kernel
theorem d48_294 : decode (mB m48) 294 = .ok (.iconst 1, 1) := by decide +kernel
theorem d48_295 : decode (mB m48) 295 = .ok (.goto 4, 3) := by decide +kernel
theorem d48_298 : decode (mB m48) 298 = .ok (.iconst 0, 1) := by decide +kernel
theorem d48_299 : decode (mB m48) 299 = .ok (.istore 13, 2) := by decide +kernel
theorem d48_301 : decode (mB m48) 301 = .ok (.iload 12, 2) := by decide +kernel
theorem d48_303 : decode (mB m48) 303 = .ok (.iload 13, 2) := by decide +kernel
theorem d48_305 : decode (mB m48) 305 = .ok (.if_icmp .eq 5, 3) := by decide +kernel
theorem d48_308 : decode (mB m48) 308 = .ok (.iconst 0, 1) := by decide +kernel
theorem d48_309 : decode (mB m48) 309 = .ok (.ireturn, 1) := by decide +kernel
theorem d48_310 : decode (mB m48) 310 = .ok (.iinc 9 1, 3) := by decide +kernel
theorem d48_313 : decode (mB m48) 313 = .ok (.goto (-94), 3) := by decide +kernel
theorem d48_316 : decode (mB m48) 316 = .ok (.iconst 0, 1) := by decide +kernel
theorem d48_317 : decode (mB m48) 317 = .ok (.istore 9, 2) := by decide +kernel
theorem d48_319 : decode (mB m48) 319 = .ok (.iconst 0, 1) := by decide +kernel
theorem d48_320 : decode (mB m48) 320 = .ok (.istore 10, 2) := by decide +kernel
theorem d48_322 : decode (mB m48) 322 = .ok (.iload 10, 2) := by decide +kernel
theorem d48_324 : decode (mB m48) 324 = .ok (.iload_n 1, 1) := by decide +kernel
theorem d48_325 : decode (mB m48) 325 = .ok (.if_icmp .ge 172, 3) := by decide +kernel
theorem d48_328 : decode (mB m48) 328 = .ok (.aload 5, 2) := by decide +kernel
theorem d48_330 : decode (mB m48) 330 = .ok (.iload 10, 2) := by decide +kernel
theorem d48_332 : decode (mB m48) 332 = .ok (.invokevirtual 68, 3) := by decide +kernel
theorem d48_335 : decode (mB m48) 335 = .ok (.istore 11, 2) := by decide +kernel
theorem d48_337 : decode (mB m48) 337 = .ok (.iload 11, 2) := by decide +kernel
theorem d48_339 : decode (mB m48) 339 = .ok (.iconst 1, 1) := by decide +kernel
theorem d48_340 : decode (mB m48) 340 = .ok (.if_icmp .ne 16, 3) := by decide +kernel
theorem d48_343 : decode (mB m48) 343 = .ok (.aload 4, 2) := by decide +kernel
theorem d48_345 : decode (mB m48) 345 = .ok (.iload 10, 2) := by decide +kernel
theorem d48_347 : decode (mB m48) 347 = .ok (.invokevirtual 68, 3) := by decide +kernel
theorem d48_350 : decode (mB m48) 350 = .ok (.ifCond .ne 6, 3) := by decide +kernel
theorem d48_353 : decode (mB m48) 353 = .ok (.iinc 9 1, 3) := by decide +kernel
theorem d48_356 : decode (mB m48) 356 = .ok (.iload 11, 2) := by decide +kernel
theorem d48_358 : decode (mB m48) 358 = .ok (.iconst 2, 1) := by decide +kernel
theorem d48_359 : decode (mB m48) 359 = .ok (.if_icmp .eq 9, 3) := by decide +kernel
theorem d48_362 : decode (mB m48) 362 = .ok (.iload 11, 2) := by decide +kernel
theorem d48_364 : decode (mB m48) 364 = .ok (.iconst 3, 1) := by decide +kernel
theorem d48_365 : decode (mB m48) 365 = .ok (.if_icmp .ne 126, 3) := by decide +kernel
theorem d48_368 : decode (mB m48) 368 = .ok (.aload 4, 2) := by decide +kernel
theorem d48_370 : decode (mB m48) 370 = .ok (.iload 10, 2) := by decide +kernel
theorem d48_372 : decode (mB m48) 372 = .ok (.invokevirtual 68, 3) := by decide +kernel
theorem d48_375 : decode (mB m48) 375 = .ok (.iload 11, 2) := by decide +kernel
theorem d48_377 : decode (mB m48) 377 = .ok (.if_icmp .eq 5, 3) := by decide +kernel
theorem d48_380 : decode (mB m48) 380 = .ok (.iconst 0, 1) := by decide +kernel
theorem d48_381 : decode (mB m48) 381 = .ok (.ireturn, 1) := by decide +kernel
theorem d48_382 : decode (mB m48) 382 = .ok (.aload 4, 2) := by decide +kernel
theorem d48_384 : decode (mB m48) 384 = .ok (.iload 10, 2) := by decide +kernel
theorem d48_386 : decode (mB m48) 386 = .ok (.invokevirtual 71, 3) := by decide +kernel
theorem d48_389 : decode (mB m48) 389 = .ok (.aload 5, 2) := by decide +kernel
theorem d48_391 : decode (mB m48) 391 = .ok (.iload 10, 2) := by decide +kernel
theorem d48_393 : decode (mB m48) 393 = .ok (.invokevirtual 71, 3) := by decide +kernel
theorem d48_396 : decode (mB m48) 396 = .ok (.if_icmp .eq 5, 3) := by decide +kernel
theorem d48_399 : decode (mB m48) 399 = .ok (.iconst 0, 1) := by decide +kernel
theorem d48_400 : decode (mB m48) 400 = .ok (.ireturn, 1) := by decide +kernel
theorem d48_401 : decode (mB m48) 401 = .ok (.aload 4, 2) := by decide +kernel
theorem d48_403 : decode (mB m48) 403 = .ok (.iload 10, 2) := by decide +kernel
theorem d48_405 : decode (mB m48) 405 = .ok (.invokevirtual 74, 3) := by decide +kernel
theorem d48_408 : decode (mB m48) 408 = .ok (.aload 5, 2) := by decide +kernel
theorem d48_410 : decode (mB m48) 410 = .ok (.iload 10, 2) := by decide +kernel
theorem d48_412 : decode (mB m48) 412 = .ok (.invokevirtual 74, 3) := by decide +kernel
theorem d48_415 : decode (mB m48) 415 = .ok (.if_icmp .eq 5, 3) := by decide +kernel
theorem d48_418 : decode (mB m48) 418 = .ok (.iconst 0, 1) := by decide +kernel
theorem d48_419 : decode (mB m48) 419 = .ok (.ireturn, 1) := by decide +kernel
theorem d48_420 : decode (mB m48) 420 = .ok (.iconst 0, 1) := by decide +kernel
theorem d48_421 : decode (mB m48) 421 = .ok (.istore 12, 2) := by decide +kernel
theorem d48_423 : decode (mB m48) 423 = .ok (.iload 12, 2) := by decide +kernel
theorem d48_425 : decode (mB m48) 425 = .ok (.iload 8, 2) := by decide +kernel
theorem d48_427 : decode (mB m48) 427 = .ok (.if_icmp .ge 64, 3) := by decide +kernel
theorem d48_430 : decode (mB m48) 430 = .ok (.iload 12, 2) := by decide +kernel
theorem d48_432 : decode (mB m48) 432 = .ok (.iload_n 2, 1) := by decide +kernel
theorem d48_433 : decode (mB m48) 433 = .ok (.idiv, 1) := by decide +kernel
theorem d48_434 : decode (mB m48) 434 = .ok (.istore 13, 2) := by decide +kernel
theorem d48_436 : decode (mB m48) 436 = .ok (.iload 12, 2) := by decide +kernel
theorem d48_438 : decode (mB m48) 438 = .ok (.iload_n 2, 1) := by decide +kernel
theorem d48_439 : decode (mB m48) 439 = .ok (.irem, 1) := by decide +kernel
theorem d48_440 : decode (mB m48) 440 = .ok (.istore 14, 2) := by decide +kernel
theorem d48_442 : decode (mB m48) 442 = .ok (.aload 4, 2) := by decide +kernel
theorem d48_444 : decode (mB m48) 444 = .ok (.iload 13, 2) := by decide +kernel
theorem d48_446 : decode (mB m48) 446 = .ok (.iload 14, 2) := by decide +kernel
theorem d48_448 : decode (mB m48) 448 = .ok (.invokevirtual 30, 3) := by decide +kernel
theorem d48_451 : decode (mB m48) 451 = .ok (.iload 10, 2) := by decide +kernel
theorem d48_453 : decode (mB m48) 453 = .ok (.if_icmp .ne 7, 3) := by decide +kernel
theorem d48_456 : decode (mB m48) 456 = .ok (.iconst 1, 1) := by decide +kernel
theorem d48_457 : decode (mB m48) 457 = .ok (.goto 4, 3) := by decide +kernel
theorem d48_460 : decode (mB m48) 460 = .ok (.iconst 0, 1) := by decide +kernel
theorem d48_461 : decode (mB m48) 461 = .ok (.aload 5, 2) := by decide +kernel
theorem d48_463 : decode (mB m48) 463 = .ok (.iload 13, 2) := by decide +kernel
theorem d48_465 : decode (mB m48) 465 = .ok (.iload 14, 2) := by decide +kernel
theorem d48_467 : decode (mB m48) 467 = .ok (.invokevirtual 30, 3) := by decide +kernel
theorem d48_470 : decode (mB m48) 470 = .ok (.iload 10, 2) := by decide +kernel
theorem d48_472 : decode (mB m48) 472 = .ok (.if_icmp .ne 7, 3) := by decide +kernel
theorem d48_475 : decode (mB m48) 475 = .ok (.iconst 1, 1) := by decide +kernel
theorem d48_476 : decode (mB m48) 476 = .ok (.goto 4, 3) := by decide +kernel
theorem d48_479 : decode (mB m48) 479 = .ok (.iconst 0, 1) := by decide +kernel
theorem d48_480 : decode (mB m48) 480 = .ok (.if_icmp .eq 5, 3) := by decide +kernel
theorem d48_483 : decode (mB m48) 483 = .ok (.iconst 0, 1) := by decide +kernel
theorem d48_484 : decode (mB m48) 484 = .ok (.ireturn, 1) := by decide +kernel
theorem d48_485 : decode (mB m48) 485 = .ok (.iinc 12 1, 3) := by decide +kernel
theorem d48_488 : decode (mB m48) 488 = .ok (.goto (-65), 3) := by decide +kernel
theorem d48_491 : decode (mB m48) 491 = .ok (.iinc 10 1, 3) := by decide +kernel
theorem d48_494 : decode (mB m48) 494 = .ok (.goto (-172), 3) := by decide +kernel
theorem d48_497 : decode (mB m48) 497 = .ok (.iload 9, 2) := by decide +kernel
theorem d48_499 : decode (mB m48) 499 = .ok (.iload 6, 2) := by decide +kernel
theorem d48_501 : decode (mB m48) 501 = .ok (.if_icmp .eq 5, 3) := by decide +kernel
theorem d48_504 : decode (mB m48) 504 = .ok (.iconst 0, 1) := by decide +kernel
theorem d48_505 : decode (mB m48) 505 = .ok (.ireturn, 1) := by decide +kernel
theorem d48_506 : decode (mB m48) 506 = .ok (.iconst 0, 1) := by decide +kernel
theorem d48_507 : decode (mB m48) 507 = .ok (.istore 10, 2) := by decide +kernel
theorem d48_509 : decode (mB m48) 509 = .ok (.iload 10, 2) := by decide +kernel
theorem d48_511 : decode (mB m48) 511 = .ok (.iload 8, 2) := by decide +kernel
theorem d48_513 : decode (mB m48) 513 = .ok (.if_icmp .ge 137, 3) := by decide +kernel
theorem d48_516 : decode (mB m48) 516 = .ok (.aload 4, 2) := by decide +kernel
theorem d48_518 : decode (mB m48) 518 = .ok (.iload 10, 2) := by decide +kernel
theorem d48_520 : decode (mB m48) 520 = .ok (.iload_n 2, 1) := by decide +kernel
theorem d48_521 : decode (mB m48) 521 = .ok (.idiv, 1) := by decide +kernel
theorem d48_522 : decode (mB m48) 522 = .ok (.iload 10, 2) := by decide +kernel
theorem d48_524 : decode (mB m48) 524 = .ok (.iload_n 2, 1) := by decide +kernel
theorem d48_525 : decode (mB m48) 525 = .ok (.irem, 1) := by decide +kernel
theorem d48_526 : decode (mB m48) 526 = .ok (.invokevirtual 30, 3) := by decide +kernel
theorem d48_529 : decode (mB m48) 529 = .ok (.istore 11, 2) := by decide +kernel
theorem d48_531 : decode (mB m48) 531 = .ok (.aload 5, 2) := by decide +kernel
theorem d48_533 : decode (mB m48) 533 = .ok (.iload 10, 2) := by decide +kernel
theorem d48_535 : decode (mB m48) 535 = .ok (.iload_n 2, 1) := by decide +kernel
theorem d48_536 : decode (mB m48) 536 = .ok (.idiv, 1) := by decide +kernel
theorem d48_537 : decode (mB m48) 537 = .ok (.iload 10, 2) := by decide +kernel
theorem d48_539 : decode (mB m48) 539 = .ok (.iload_n 2, 1) := by decide +kernel
theorem d48_540 : decode (mB m48) 540 = .ok (.irem, 1) := by decide +kernel
theorem d48_541 : decode (mB m48) 541 = .ok (.invokevirtual 30, 3) := by decide +kernel
theorem d48_544 : decode (mB m48) 544 = .ok (.istore 12, 2) := by decide +kernel
theorem d48_546 : decode (mB m48) 546 = .ok (.iload 10, 2) := by decide +kernel
theorem d48_548 : decode (mB m48) 548 = .ok (.iconst 1, 1) := by decide +kernel
theorem d48_549 : decode (mB m48) 549 = .ok (.iadd, 1) := by decide +kernel
theorem d48_550 : decode (mB m48) 550 = .ok (.istore 13, 2) := by decide +kernel
theorem d48_552 : decode (mB m48) 552 = .ok (.iload 13, 2) := by decide +kernel
theorem d48_554 : decode (mB m48) 554 = .ok (.iload 8, 2) := by decide +kernel
theorem d48_556 : decode (mB m48) 556 = .ok (.if_icmp .ge 88, 3) := by decide +kernel
theorem d48_559 : decode (mB m48) 559 = .ok (.aload 4, 2) := by decide +kernel
theorem d48_561 : decode (mB m48) 561 = .ok (.iload 13, 2) := by decide +kernel
theorem d48_563 : decode (mB m48) 563 = .ok (.iload_n 2, 1) := by decide +kernel
theorem d48_564 : decode (mB m48) 564 = .ok (.idiv, 1) := by decide +kernel
theorem d48_565 : decode (mB m48) 565 = .ok (.iload 13, 2) := by decide +kernel
theorem d48_567 : decode (mB m48) 567 = .ok (.iload_n 2, 1) := by decide +kernel
theorem d48_568 : decode (mB m48) 568 = .ok (.irem, 1) := by decide +kernel
theorem d48_569 : decode (mB m48) 569 = .ok (.invokevirtual 30, 3) := by decide +kernel
theorem d48_572 : decode (mB m48) 572 = .ok (.istore 14, 2) := by decide +kernel
theorem d48_574 : decode (mB m48) 574 = .ok (.aload 5, 2) := by decide +kernel
theorem d48_576 : decode (mB m48) 576 = .ok (.iload 13, 2) := by decide +kernel
theorem d48_578 : decode (mB m48) 578 = .ok (.iload_n 2, 1) := by decide +kernel
theorem d48_579 : decode (mB m48) 579 = .ok (.idiv, 1) := by decide +kernel
theorem d48_580 : decode (mB m48) 580 = .ok (.iload 13, 2) := by decide +kernel
theorem d48_582 : decode (mB m48) 582 = .ok (.iload_n 2, 1) := by decide +kernel
theorem d48_583 : decode (mB m48) 583 = .ok (.irem, 1) := by decide +kernel
theorem d48_584 : decode (mB m48) 584 = .ok (.invokevirtual 30, 3) := by decide +kernel
theorem d48_587 : decode (mB m48) 587 = .ok (.istore 15, 2) := by decide +kernel
theorem d48_589 : decode (mB m48) 589 = .ok (.iload 11, 2) := by decide +kernel
theorem d48_591 : decode (mB m48) 591 = .ok (.iconst (-1), 1) := by decide +kernel
theorem d48_592 : decode (mB m48) 592 = .ok (.if_icmp .eq 14, 3) := by decide +kernel
theorem d48_595 : decode (mB m48) 595 = .ok (.iload 11, 2) := by decide +kernel
theorem d48_597 : decode (mB m48) 597 = .ok (.iload 14, 2) := by decide +kernel
theorem d48_599 : decode (mB m48) 599 = .ok (.if_icmp .ne 7, 3) := by decide +kernel
theorem d48_602 : decode (mB m48) 602 = .ok (.iconst 1, 1) := by decide +kernel
theorem d48_603 : decode (mB m48) 603 = .ok (.goto 4, 3) := by decide +kernel
theorem d48_606 : decode (mB m48) 606 = .ok (.iconst 0, 1) := by decide +kernel
theorem d48_607 : decode (mB m48) 607 = .ok (.istore 16, 2) := by decide +kernel
theorem d48_609 : decode (mB m48) 609 = .ok (.iload 12, 2) := by decide +kernel
theorem d48_611 : decode (mB m48) 611 = .ok (.iconst (-1), 1) := by decide +kernel
theorem d48_612 : decode (mB m48) 612 = .ok (.if_icmp .eq 14, 3) := by decide +kernel
theorem d48_615 : decode (mB m48) 615 = .ok (.iload 12, 2) := by decide +kernel
theorem d48_617 : decode (mB m48) 617 = .ok (.iload 15, 2) := by decide +kernel
theorem d48_619 : decode (mB m48) 619 = .ok (.if_icmp .ne 7, 3) := by decide +kernel
theorem d48_622 : decode (mB m48) 622 = .ok (.iconst 1, 1) := by decide +kernel
theorem d48_623 : decode (mB m48) 623 = .ok (.goto 4, 3) := by decide +kernel
theorem d48_626 : decode (mB m48) 626 = .ok (.iconst 0, 1) := by decide +kernel
theorem d48_627 : decode (mB m48) 627 = .ok (.istore 17, 2) := by decide +kernel
theorem d48_629 : decode (mB m48) 629 = .ok (.iload 16, 2) := by decide +kernel
theorem d48_631 : decode (mB m48) 631 = .ok (.iload 17, 2) := by decide +kernel
theorem d48_633 : decode (mB m48) 633 = .ok (.if_icmp .eq 5, 3) := by decide +kernel
theorem d48_636 : decode (mB m48) 636 = .ok (.iconst 0, 1) := by decide +kernel
theorem d48_637 : decode (mB m48) 637 = .ok (.ireturn, 1) := by decide +kernel
theorem d48_638 : decode (mB m48) 638 = .ok (.iinc 13 1, 3) := by decide +kernel
theorem d48_641 : decode (mB m48) 641 = .ok (.goto (-89), 3) := by decide +kernel
theorem d48_644 : decode (mB m48) 644 = .ok (.iinc 10 1, 3) := by decide +kernel
theorem d48_647 : decode (mB m48) 647 = .ok (.goto (-138), 3) := by decide +kernel
theorem d48_650 : decode (mB m48) 650 = .ok (.iconst 1, 1) := by decide +kernel
theorem d48_651 : decode (mB m48) 651 = .ok (.ireturn, 1) := by decide +kernel
theorem cb_m4 : (-4 : Int32) = (Int8.ofInt (-4)).toInt32 := by decide
theorem cb_m3 : (-3 : Int32) = (Int8.ofInt (-3)).toInt32 := by decide
theorem cb_m2 : (-2 : Int32) = (Int8.ofInt (-2)).toInt32 := by decide
theorem cb_6 : (6 : Int32) = (Int8.ofInt (6)).toInt32 := by decide
theorem cb_7 : (7 : Int32) = (Int8.ofInt (7)).toInt32 := by decide
theorem cb_8 : (8 : Int32) = (Int8.ofInt (8)).toInt32 := by decide
theorem cb_13 : (13 : Int32) = (Int8.ofInt (13)).toInt32 := by decide
theorem cb_16 : (16 : Int32) = (Int8.ofInt (16)).toInt32 := by decide
theorem cb_32 : (32 : Int32) = (Int8.ofInt (32)).toInt32 := by decide
theorem cb_56 : (56 : Int32) = (Int8.ofInt (56)).toInt32 := by decide
theorem cb_57 : (57 : Int32) = (Int8.ofInt (57)).toInt32 := by decide
theorem cb_63 : (63 : Int32) = (Int8.ofInt (63)).toInt32 := by decide
theorem cb_64 : (64 : Int32) = (Int8.ofInt (64)).toInt32 := by decide
theorem cb_65 : (65 : Int32) = (Int8.ofInt (65)).toInt32 := by decide
theorem cb_80 : (80 : Int32) = (Int8.ofInt (80)).toInt32 := by decide
theorem ci_m1 : (-1 : Int32) = Int32.ofInt (-1) := by decide
theorem ci_0 : (0 : Int32) = Int32.ofInt (0) := by decide
theorem ci_1 : (1 : Int32) = Int32.ofInt (1) := by decide
theorem ci_2 : (2 : Int32) = Int32.ofInt (2) := by decide
theorem ci_3 : (3 : Int32) = Int32.ofInt (3) := by decide
theorem ci_4 : (4 : Int32) = Int32.ofInt (4) := by decide
theorem ci_5 : (5 : Int32) = Int32.ofInt (5) := by decide
theorem ci_8 : (8 : Int32) = Int32.ofInt (8) := by decide
theorem ci_16 : (16 : Int32) = Int32.ofInt (16) := by decide
theorem ci_32 : (32 : Int32) = Int32.ofInt (32) := by decide
theorem cl_0 : (0 : Int64) = Int64.ofNat ((0 : Fin 2)) := by decide
theorem cl_1 : (1 : Int64) = Int64.ofNat ((1 : Fin 2)) := by decide
theorem j_1_5 : 0 ≤ ((1 : Nat) : Int) + (5) ∧ (((1 : Nat) : Int) + (5)).toNat = 6 := by decide
theorem j_1_7 : 0 ≤ ((1 : Nat) : Int) + (7) ∧ (((1 : Nat) : Int) + (7)).toNat = 8 := by decide
theorem j_1_8 : 0 ≤ ((1 : Nat) : Int) + (8) ∧ (((1 : Nat) : Int) + (8)).toNat = 9 := by decide
theorem j_1_9 : 0 ≤ ((1 : Nat) : Int) + (9) ∧ (((1 : Nat) : Int) + (9)).toNat = 10 := by decide
theorem j_1_15 : 0 ≤ ((1 : Nat) : Int) + (15) ∧ (((1 : Nat) : Int) + (15)).toNat = 16 := by decide
theorem j_1_17 : 0 ≤ ((1 : Nat) : Int) + (17) ∧ (((1 : Nat) : Int) + (17)).toNat = 18 := by decide
theorem j_2_5 : 0 ≤ ((2 : Nat) : Int) + (5) ∧ (((2 : Nat) : Int) + (5)).toNat = 7 := by decide
theorem j_3_5 : 0 ≤ ((3 : Nat) : Int) + (5) ∧ (((3 : Nat) : Int) + (5)).toNat = 8 := by decide
theorem j_3_9 : 0 ≤ ((3 : Nat) : Int) + (9) ∧ (((3 : Nat) : Int) + (9)).toNat = 12 := by decide
theorem j_4_4 : 0 ≤ ((4 : Nat) : Int) + (4) ∧ (((4 : Nat) : Int) + (4)).toNat = 8 := by decide
theorem j_5_4 : 0 ≤ ((5 : Nat) : Int) + (4) ∧ (((5 : Nat) : Int) + (4)).toNat = 9 := by decide
theorem j_5_5 : 0 ≤ ((5 : Nat) : Int) + (5) ∧ (((5 : Nat) : Int) + (5)).toNat = 10 := by decide
theorem j_5_9 : 0 ≤ ((5 : Nat) : Int) + (9) ∧ (((5 : Nat) : Int) + (9)).toNat = 14 := by decide
theorem j_5_11 : 0 ≤ ((5 : Nat) : Int) + (11) ∧ (((5 : Nat) : Int) + (11)).toNat = 16 := by decide
theorem j_5_58 : 0 ≤ ((5 : Nat) : Int) + (58) ∧ (((5 : Nat) : Int) + (58)).toNat = 63 := by decide
theorem j_6_5 : 0 ≤ ((6 : Nat) : Int) + (5) ∧ (((6 : Nat) : Int) + (5)).toNat = 11 := by decide
theorem j_7_5 : 0 ≤ ((7 : Nat) : Int) + (5) ∧ (((7 : Nat) : Int) + (5)).toNat = 12 := by decide
theorem j_7_11 : 0 ≤ ((7 : Nat) : Int) + (11) ∧ (((7 : Nat) : Int) + (11)).toNat = 18 := by decide
theorem j_8_4 : 0 ≤ ((8 : Nat) : Int) + (4) ∧ (((8 : Nat) : Int) + (4)).toNat = 12 := by decide
theorem j_8_5 : 0 ≤ ((8 : Nat) : Int) + (5) ∧ (((8 : Nat) : Int) + (5)).toNat = 13 := by decide
theorem j_9_4 : 0 ≤ ((9 : Nat) : Int) + (4) ∧ (((9 : Nat) : Int) + (4)).toNat = 13 := by decide
theorem j_9_5 : 0 ≤ ((9 : Nat) : Int) + (5) ∧ (((9 : Nat) : Int) + (5)).toNat = 14 := by decide
theorem j_9_7 : 0 ≤ ((9 : Nat) : Int) + (7) ∧ (((9 : Nat) : Int) + (7)).toNat = 16 := by decide
theorem j_10_5 : 0 ≤ ((10 : Nat) : Int) + (5) ∧ (((10 : Nat) : Int) + (5)).toNat = 15 := by decide
theorem j_10_6 : 0 ≤ ((10 : Nat) : Int) + (6) ∧ (((10 : Nat) : Int) + (6)).toNat = 16 := by decide
theorem j_10_7 : 0 ≤ ((10 : Nat) : Int) + (7) ∧ (((10 : Nat) : Int) + (7)).toNat = 17 := by decide
theorem j_10_24 : 0 ≤ ((10 : Nat) : Int) + (24) ∧ (((10 : Nat) : Int) + (24)).toNat = 34 := by decide
theorem j_11_4 : 0 ≤ ((11 : Nat) : Int) + (4) ∧ (((11 : Nat) : Int) + (4)).toNat = 15 := by decide
theorem j_11_5 : 0 ≤ ((11 : Nat) : Int) + (5) ∧ (((11 : Nat) : Int) + (5)).toNat = 16 := by decide
theorem j_12_15 : 0 ≤ ((12 : Nat) : Int) + (15) ∧ (((12 : Nat) : Int) + (15)).toNat = 27 := by decide
theorem j_13_4 : 0 ≤ ((13 : Nat) : Int) + (4) ∧ (((13 : Nat) : Int) + (4)).toNat = 17 := by decide
theorem j_14_8 : 0 ≤ ((14 : Nat) : Int) + (8) ∧ (((14 : Nat) : Int) + (8)).toNat = 22 := by decide
theorem j_14_33 : 0 ≤ ((14 : Nat) : Int) + (33) ∧ (((14 : Nat) : Int) + (33)).toNat = 47 := by decide
theorem j_15_4 : 0 ≤ ((15 : Nat) : Int) + (4) ∧ (((15 : Nat) : Int) + (4)).toNat = 19 := by decide
theorem j_17_5 : 0 ≤ ((17 : Nat) : Int) + (5) ∧ (((17 : Nat) : Int) + (5)).toNat = 22 := by decide
theorem j_17_17 : 0 ≤ ((17 : Nat) : Int) + (17) ∧ (((17 : Nat) : Int) + (17)).toNat = 34 := by decide
theorem j_18_5 : 0 ≤ ((18 : Nat) : Int) + (5) ∧ (((18 : Nat) : Int) + (5)).toNat = 23 := by decide
theorem j_18_8 : 0 ≤ ((18 : Nat) : Int) + (8) ∧ (((18 : Nat) : Int) + (8)).toNat = 26 := by decide
theorem j_18_29 : 0 ≤ ((18 : Nat) : Int) + (29) ∧ (((18 : Nat) : Int) + (29)).toNat = 47 := by decide
theorem j_19_7 : 0 ≤ ((19 : Nat) : Int) + (7) ∧ (((19 : Nat) : Int) + (7)).toNat = 26 := by decide
theorem j_19_17 : 0 ≤ ((19 : Nat) : Int) + (17) ∧ (((19 : Nat) : Int) + (17)).toNat = 36 := by decide
theorem j_20_7 : 0 ≤ ((20 : Nat) : Int) + (7) ∧ (((20 : Nat) : Int) + (7)).toNat = 27 := by decide
theorem j_20_9 : 0 ≤ ((20 : Nat) : Int) + (9) ∧ (((20 : Nat) : Int) + (9)).toNat = 29 := by decide
theorem j_20_13 : 0 ≤ ((20 : Nat) : Int) + (13) ∧ (((20 : Nat) : Int) + (13)).toNat = 33 := by decide
theorem j_21_6 : 0 ≤ ((21 : Nat) : Int) + (6) ∧ (((21 : Nat) : Int) + (6)).toNat = 27 := by decide
theorem j_21_7 : 0 ≤ ((21 : Nat) : Int) + (7) ∧ (((21 : Nat) : Int) + (7)).toNat = 28 := by decide
theorem j_21_13 : 0 ≤ ((21 : Nat) : Int) + (13) ∧ (((21 : Nat) : Int) + (13)).toNat = 34 := by decide
theorem j_22_6 : 0 ≤ ((22 : Nat) : Int) + (6) ∧ (((22 : Nat) : Int) + (6)).toNat = 28 := by decide
theorem j_22_16 : 0 ≤ ((22 : Nat) : Int) + (16) ∧ (((22 : Nat) : Int) + (16)).toNat = 38 := by decide
theorem j_23_5 : 0 ≤ ((23 : Nat) : Int) + (5) ∧ (((23 : Nat) : Int) + (5)).toNat = 28 := by decide
theorem j_24_4 : 0 ≤ ((24 : Nat) : Int) + (4) ∧ (((24 : Nat) : Int) + (4)).toNat = 28 := by decide
theorem j_24_6 : 0 ≤ ((24 : Nat) : Int) + (6) ∧ (((24 : Nat) : Int) + (6)).toNat = 30 := by decide
theorem j_24_12 : 0 ≤ ((24 : Nat) : Int) + (12) ∧ (((24 : Nat) : Int) + (12)).toNat = 36 := by decide
theorem j_24_23 : 0 ≤ ((24 : Nat) : Int) + (23) ∧ (((24 : Nat) : Int) + (23)).toNat = 47 := by decide
theorem j_25_4 : 0 ≤ ((25 : Nat) : Int) + (4) ∧ (((25 : Nat) : Int) + (4)).toNat = 29 := by decide
theorem j_25_40 : 0 ≤ ((25 : Nat) : Int) + (40) ∧ (((25 : Nat) : Int) + (40)).toNat = 65 := by decide
theorem j_26_5 : 0 ≤ ((26 : Nat) : Int) + (5) ∧ (((26 : Nat) : Int) + (5)).toNat = 31 := by decide
theorem j_28_7 : 0 ≤ ((28 : Nat) : Int) + (7) ∧ (((28 : Nat) : Int) + (7)).toNat = 35 := by decide
theorem j_28_10 : 0 ≤ ((28 : Nat) : Int) + (10) ∧ (((28 : Nat) : Int) + (10)).toNat = 38 := by decide
theorem j_31_m24 : 0 ≤ ((31 : Nat) : Int) + (-24) ∧ (((31 : Nat) : Int) + (-24)).toNat = 7 := by decide
theorem j_32_5 : 0 ≤ ((32 : Nat) : Int) + (5) ∧ (((32 : Nat) : Int) + (5)).toNat = 37 := by decide
theorem j_33_4 : 0 ≤ ((33 : Nat) : Int) + (4) ∧ (((33 : Nat) : Int) + (4)).toNat = 37 := by decide
theorem j_33_191 : 0 ≤ ((33 : Nat) : Int) + (191) ∧ (((33 : Nat) : Int) + (191)).toNat = 224 := by decide
theorem j_35_14 : 0 ≤ ((35 : Nat) : Int) + (14) ∧ (((35 : Nat) : Int) + (14)).toNat = 49 := by decide
theorem j_37_7 : 0 ≤ ((37 : Nat) : Int) + (7) ∧ (((37 : Nat) : Int) + (7)).toNat = 44 := by decide
theorem j_37_69 : 0 ≤ ((37 : Nat) : Int) + (69) ∧ (((37 : Nat) : Int) + (69)).toNat = 106 := by decide
theorem j_38_6 : 0 ≤ ((38 : Nat) : Int) + (6) ∧ (((38 : Nat) : Int) + (6)).toNat = 44 := by decide
theorem j_38_28 : 0 ≤ ((38 : Nat) : Int) + (28) ∧ (((38 : Nat) : Int) + (28)).toNat = 66 := by decide
theorem j_39_14 : 0 ≤ ((39 : Nat) : Int) + (14) ∧ (((39 : Nat) : Int) + (14)).toNat = 53 := by decide
theorem j_40_6 : 0 ≤ ((40 : Nat) : Int) + (6) ∧ (((40 : Nat) : Int) + (6)).toNat = 46 := by decide
theorem j_40_13 : 0 ≤ ((40 : Nat) : Int) + (13) ∧ (((40 : Nat) : Int) + (13)).toNat = 53 := by decide
theorem j_42_13 : 0 ≤ ((42 : Nat) : Int) + (13) ∧ (((42 : Nat) : Int) + (13)).toNat = 55 := by decide
theorem j_43_6 : 0 ≤ ((43 : Nat) : Int) + (6) ∧ (((43 : Nat) : Int) + (6)).toNat = 49 := by decide
theorem j_44_m34 : 0 ≤ ((44 : Nat) : Int) + (-34) ∧ (((44 : Nat) : Int) + (-34)).toNat = 10 := by decide
theorem j_44_6 : 0 ≤ ((44 : Nat) : Int) + (6) ∧ (((44 : Nat) : Int) + (6)).toNat = 50 := by decide
theorem j_46_7 : 0 ≤ ((46 : Nat) : Int) + (7) ∧ (((46 : Nat) : Int) + (7)).toNat = 53 := by decide
theorem j_46_12 : 0 ≤ ((46 : Nat) : Int) + (12) ∧ (((46 : Nat) : Int) + (12)).toNat = 58 := by decide
theorem j_47_20 : 0 ≤ ((47 : Nat) : Int) + (20) ∧ (((47 : Nat) : Int) + (20)).toNat = 67 := by decide
theorem j_50_12 : 0 ≤ ((50 : Nat) : Int) + (12) ∧ (((50 : Nat) : Int) + (12)).toNat = 62 := by decide
theorem j_52_6 : 0 ≤ ((52 : Nat) : Int) + (6) ∧ (((52 : Nat) : Int) + (6)).toNat = 58 := by decide
theorem j_53_14 : 0 ≤ ((53 : Nat) : Int) + (14) ∧ (((53 : Nat) : Int) + (14)).toNat = 67 := by decide
theorem j_55_51 : 0 ≤ ((55 : Nat) : Int) + (51) ∧ (((55 : Nat) : Int) + (51)).toNat = 106 := by decide
theorem j_56_5 : 0 ≤ ((56 : Nat) : Int) + (5) ∧ (((56 : Nat) : Int) + (5)).toNat = 61 := by decide
theorem j_56_9 : 0 ≤ ((56 : Nat) : Int) + (9) ∧ (((56 : Nat) : Int) + (9)).toNat = 65 := by decide
theorem j_60_m58 : 0 ≤ ((60 : Nat) : Int) + (-58) ∧ (((60 : Nat) : Int) + (-58)).toNat = 2 := by decide
theorem j_60_13 : 0 ≤ ((60 : Nat) : Int) + (13) ∧ (((60 : Nat) : Int) + (13)).toNat = 73 := by decide
theorem j_62_m40 : 0 ≤ ((62 : Nat) : Int) + (-40) ∧ (((62 : Nat) : Int) + (-40)).toNat = 22 := by decide
theorem j_63_13 : 0 ≤ ((63 : Nat) : Int) + (13) ∧ (((63 : Nat) : Int) + (13)).toNat = 76 := by decide
theorem j_63_161 : 0 ≤ ((63 : Nat) : Int) + (161) ∧ (((63 : Nat) : Int) + (161)).toNat = 224 := by decide
theorem j_64_11 : 0 ≤ ((64 : Nat) : Int) + (11) ∧ (((64 : Nat) : Int) + (11)).toNat = 75 := by decide
theorem j_68_6 : 0 ≤ ((68 : Nat) : Int) + (6) ∧ (((68 : Nat) : Int) + (6)).toNat = 74 := by decide
theorem j_68_15 : 0 ≤ ((68 : Nat) : Int) + (15) ∧ (((68 : Nat) : Int) + (15)).toNat = 83 := by decide
theorem j_70_82 : 0 ≤ ((70 : Nat) : Int) + (82) ∧ (((70 : Nat) : Int) + (82)).toNat = 152 := by decide
theorem j_72_16 : 0 ≤ ((72 : Nat) : Int) + (16) ∧ (((72 : Nat) : Int) + (16)).toNat = 88 := by decide
theorem j_77_18 : 0 ≤ ((77 : Nat) : Int) + (18) ∧ (((77 : Nat) : Int) + (18)).toNat = 95 := by decide
theorem j_79_12 : 0 ≤ ((79 : Nat) : Int) + (12) ∧ (((79 : Nat) : Int) + (12)).toNat = 91 := by decide
theorem j_80_144 : 0 ≤ ((80 : Nat) : Int) + (144) ∧ (((80 : Nat) : Int) + (144)).toNat = 224 := by decide
theorem j_84_11 : 0 ≤ ((84 : Nat) : Int) + (11) ∧ (((84 : Nat) : Int) + (11)).toNat = 95 := by decide
theorem j_84_12 : 0 ≤ ((84 : Nat) : Int) + (12) ∧ (((84 : Nat) : Int) + (12)).toNat = 96 := by decide
theorem j_85_17 : 0 ≤ ((85 : Nat) : Int) + (17) ∧ (((85 : Nat) : Int) + (17)).toNat = 102 := by decide
theorem j_85_49 : 0 ≤ ((85 : Nat) : Int) + (49) ∧ (((85 : Nat) : Int) + (49)).toNat = 134 := by decide
theorem j_90_16 : 0 ≤ ((90 : Nat) : Int) + (16) ∧ (((90 : Nat) : Int) + (16)).toNat = 106 := by decide
theorem j_97_12 : 0 ≤ ((97 : Nat) : Int) + (12) ∧ (((97 : Nat) : Int) + (12)).toNat = 109 := by decide
theorem j_99_125 : 0 ≤ ((99 : Nat) : Int) + (125) ∧ (((99 : Nat) : Int) + (125)).toNat = 224 := by decide
theorem j_103_m69 : 0 ≤ ((103 : Nat) : Int) + (-69) ∧ (((103 : Nat) : Int) + (-69)).toNat = 34 := by decide
theorem j_103_31 : 0 ≤ ((103 : Nat) : Int) + (31) ∧ (((103 : Nat) : Int) + (31)).toNat = 134 := by decide
theorem j_104_12 : 0 ≤ ((104 : Nat) : Int) + (12) ∧ (((104 : Nat) : Int) + (12)).toNat = 116 := by decide
theorem j_104_19 : 0 ≤ ((104 : Nat) : Int) + (19) ∧ (((104 : Nat) : Int) + (19)).toNat = 123 := by decide
theorem j_108_16 : 0 ≤ ((108 : Nat) : Int) + (16) ∧ (((108 : Nat) : Int) + (16)).toNat = 124 := by decide
theorem j_115_6 : 0 ≤ ((115 : Nat) : Int) + (6) ∧ (((115 : Nat) : Int) + (6)).toNat = 121 := by decide
theorem j_120_104 : 0 ≤ ((120 : Nat) : Int) + (104) ∧ (((120 : Nat) : Int) + (104)).toNat = 224 := by decide
theorem j_121_13 : 0 ≤ ((121 : Nat) : Int) + (13) ∧ (((121 : Nat) : Int) + (13)).toNat = 134 := by decide
theorem j_122_6 : 0 ≤ ((122 : Nat) : Int) + (6) ∧ (((122 : Nat) : Int) + (6)).toNat = 128 := by decide
theorem j_126_39 : 0 ≤ ((126 : Nat) : Int) + (39) ∧ (((126 : Nat) : Int) + (39)).toNat = 165 := by decide
theorem j_132_19 : 0 ≤ ((132 : Nat) : Int) + (19) ∧ (((132 : Nat) : Int) + (19)).toNat = 151 := by decide
theorem j_148_76 : 0 ≤ ((148 : Nat) : Int) + (76) ∧ (((148 : Nat) : Int) + (76)).toNat = 224 := by decide
theorem j_149_m83 : 0 ≤ ((149 : Nat) : Int) + (-83) ∧ (((149 : Nat) : Int) + (-83)).toNat = 66 := by decide
theorem j_161_7 : 0 ≤ ((161 : Nat) : Int) + (7) ∧ (((161 : Nat) : Int) + (7)).toNat = 168 := by decide
theorem j_162_62 : 0 ≤ ((162 : Nat) : Int) + (62) ∧ (((162 : Nat) : Int) + (62)).toNat = 224 := by decide
theorem j_165_15 : 0 ≤ ((165 : Nat) : Int) + (15) ∧ (((165 : Nat) : Int) + (15)).toNat = 180 := by decide
theorem j_171_8 : 0 ≤ ((171 : Nat) : Int) + (8) ∧ (((171 : Nat) : Int) + (8)).toNat = 179 := by decide
theorem j_176_4 : 0 ≤ ((176 : Nat) : Int) + (4) ∧ (((176 : Nat) : Int) + (4)).toNat = 180 := by decide
theorem j_176_16 : 0 ≤ ((176 : Nat) : Int) + (16) ∧ (((176 : Nat) : Int) + (16)).toNat = 192 := by decide
theorem j_184_10 : 0 ≤ ((184 : Nat) : Int) + (10) ∧ (((184 : Nat) : Int) + (10)).toNat = 194 := by decide
theorem j_189_35 : 0 ≤ ((189 : Nat) : Int) + (35) ∧ (((189 : Nat) : Int) + (35)).toNat = 224 := by decide
theorem j_191_5 : 0 ≤ ((191 : Nat) : Int) + (5) ∧ (((191 : Nat) : Int) + (5)).toNat = 196 := by decide
theorem j_195_18 : 0 ≤ ((195 : Nat) : Int) + (18) ∧ (((195 : Nat) : Int) + (18)).toNat = 213 := by decide
theorem j_206_5 : 0 ≤ ((206 : Nat) : Int) + (5) ∧ (((206 : Nat) : Int) + (5)).toNat = 211 := by decide
theorem j_210_14 : 0 ≤ ((210 : Nat) : Int) + (14) ∧ (((210 : Nat) : Int) + (14)).toNat = 224 := by decide
theorem j_223_93 : 0 ≤ ((223 : Nat) : Int) + (93) ∧ (((223 : Nat) : Int) + (93)).toNat = 316 := by decide
theorem j_256_5 : 0 ≤ ((256 : Nat) : Int) + (5) ∧ (((256 : Nat) : Int) + (5)).toNat = 261 := by decide
theorem j_271_7 : 0 ≤ ((271 : Nat) : Int) + (7) ∧ (((271 : Nat) : Int) + (7)).toNat = 278 := by decide
theorem j_275_4 : 0 ≤ ((275 : Nat) : Int) + (4) ∧ (((275 : Nat) : Int) + (4)).toNat = 279 := by decide
theorem j_291_7 : 0 ≤ ((291 : Nat) : Int) + (7) ∧ (((291 : Nat) : Int) + (7)).toNat = 298 := by decide
theorem j_295_4 : 0 ≤ ((295 : Nat) : Int) + (4) ∧ (((295 : Nat) : Int) + (4)).toNat = 299 := by decide
theorem j_305_5 : 0 ≤ ((305 : Nat) : Int) + (5) ∧ (((305 : Nat) : Int) + (5)).toNat = 310 := by decide
theorem j_313_m94 : 0 ≤ ((313 : Nat) : Int) + (-94) ∧ (((313 : Nat) : Int) + (-94)).toNat = 219 := by decide
theorem j_325_172 : 0 ≤ ((325 : Nat) : Int) + (172) ∧ (((325 : Nat) : Int) + (172)).toNat = 497 := by decide
theorem j_340_16 : 0 ≤ ((340 : Nat) : Int) + (16) ∧ (((340 : Nat) : Int) + (16)).toNat = 356 := by decide
theorem j_350_6 : 0 ≤ ((350 : Nat) : Int) + (6) ∧ (((350 : Nat) : Int) + (6)).toNat = 356 := by decide
theorem j_359_9 : 0 ≤ ((359 : Nat) : Int) + (9) ∧ (((359 : Nat) : Int) + (9)).toNat = 368 := by decide
theorem j_365_126 : 0 ≤ ((365 : Nat) : Int) + (126) ∧ (((365 : Nat) : Int) + (126)).toNat = 491 := by decide
theorem j_377_5 : 0 ≤ ((377 : Nat) : Int) + (5) ∧ (((377 : Nat) : Int) + (5)).toNat = 382 := by decide
theorem j_396_5 : 0 ≤ ((396 : Nat) : Int) + (5) ∧ (((396 : Nat) : Int) + (5)).toNat = 401 := by decide
theorem j_415_5 : 0 ≤ ((415 : Nat) : Int) + (5) ∧ (((415 : Nat) : Int) + (5)).toNat = 420 := by decide
theorem j_427_64 : 0 ≤ ((427 : Nat) : Int) + (64) ∧ (((427 : Nat) : Int) + (64)).toNat = 491 := by decide
theorem j_453_7 : 0 ≤ ((453 : Nat) : Int) + (7) ∧ (((453 : Nat) : Int) + (7)).toNat = 460 := by decide
theorem j_457_4 : 0 ≤ ((457 : Nat) : Int) + (4) ∧ (((457 : Nat) : Int) + (4)).toNat = 461 := by decide
theorem j_472_7 : 0 ≤ ((472 : Nat) : Int) + (7) ∧ (((472 : Nat) : Int) + (7)).toNat = 479 := by decide
theorem j_476_4 : 0 ≤ ((476 : Nat) : Int) + (4) ∧ (((476 : Nat) : Int) + (4)).toNat = 480 := by decide
theorem j_480_5 : 0 ≤ ((480 : Nat) : Int) + (5) ∧ (((480 : Nat) : Int) + (5)).toNat = 485 := by decide
theorem j_488_m65 : 0 ≤ ((488 : Nat) : Int) + (-65) ∧ (((488 : Nat) : Int) + (-65)).toNat = 423 := by decide
theorem j_494_m172 : 0 ≤ ((494 : Nat) : Int) + (-172) ∧ (((494 : Nat) : Int) + (-172)).toNat = 322 := by decide
theorem j_501_5 : 0 ≤ ((501 : Nat) : Int) + (5) ∧ (((501 : Nat) : Int) + (5)).toNat = 506 := by decide
theorem j_513_137 : 0 ≤ ((513 : Nat) : Int) + (137) ∧ (((513 : Nat) : Int) + (137)).toNat = 650 := by decide
theorem j_556_88 : 0 ≤ ((556 : Nat) : Int) + (88) ∧ (((556 : Nat) : Int) + (88)).toNat = 644 := by decide
theorem j_592_14 : 0 ≤ ((592 : Nat) : Int) + (14) ∧ (((592 : Nat) : Int) + (14)).toNat = 606 := by decide
theorem j_599_7 : 0 ≤ ((599 : Nat) : Int) + (7) ∧ (((599 : Nat) : Int) + (7)).toNat = 606 := by decide
theorem j_603_4 : 0 ≤ ((603 : Nat) : Int) + (4) ∧ (((603 : Nat) : Int) + (4)).toNat = 607 := by decide
theorem j_612_14 : 0 ≤ ((612 : Nat) : Int) + (14) ∧ (((612 : Nat) : Int) + (14)).toNat = 626 := by decide
theorem j_619_7 : 0 ≤ ((619 : Nat) : Int) + (7) ∧ (((619 : Nat) : Int) + (7)).toNat = 626 := by decide
theorem j_623_4 : 0 ≤ ((623 : Nat) : Int) + (4) ∧ (((623 : Nat) : Int) + (4)).toNat = 627 := by decide
theorem j_633_5 : 0 ≤ ((633 : Nat) : Int) + (5) ∧ (((633 : Nat) : Int) + (5)).toNat = 638 := by decide
theorem j_641_m89 : 0 ≤ ((641 : Nat) : Int) + (-89) ∧ (((641 : Nat) : Int) + (-89)).toNat = 552 := by decide
theorem j_647_m138 : 0 ≤ ((647 : Nat) : Int) + (-138) ∧ (((647 : Nat) : Int) + (-138)).toNat = 509 := by decide
theorem lk_0_36 : LinkP PP "PageCompactorY" 36 m2 := ⟨List.mem_of_getElem? (i := 35) rfl, List.mem_of_getElem? (i := 36) rfl, List.mem_of_getElem? (i := 37) rfl, List.mem_of_getElem? (i := 38) rfl, rfl, rfl⟩
theorem lk_0_47 : LinkP PP "PageCompactorY" 47 m4 := ⟨List.mem_of_getElem? (i := 43) rfl, List.mem_of_getElem? (i := 44) rfl, List.mem_of_getElem? (i := 45) rfl, List.mem_of_getElem? (i := 46) rfl, rfl, rfl⟩
theorem lk_0_50 : LinkP PP "PageCompactorY" 50 m8 := ⟨List.mem_of_getElem? (i := 69) rfl, List.mem_of_getElem? (i := 70) rfl, List.mem_of_getElem? (i := 71) rfl, List.mem_of_getElem? (i := 72) rfl, rfl, rfl⟩
theorem lk_0_58 : LinkP PP "PageCompactorY" 58 m9 := ⟨List.mem_of_getElem? (i := 81) rfl, List.mem_of_getElem? (i := 82) rfl, List.mem_of_getElem? (i := 83) rfl, List.mem_of_getElem? (i := 84) rfl, rfl, rfl⟩
theorem lk_0_62 : LinkP PP "PageCompactorY" 62 m10 := ⟨List.mem_of_getElem? (i := 90) rfl, List.mem_of_getElem? (i := 91) rfl, List.mem_of_getElem? (i := 92) rfl, List.mem_of_getElem? (i := 93) rfl, rfl, rfl⟩
theorem lk_0_66 : LinkP PP "PageCompactorY" 66 m7 := ⟨List.mem_of_getElem? (i := 77) rfl, List.mem_of_getElem? (i := 78) rfl, List.mem_of_getElem? (i := 79) rfl, List.mem_of_getElem? (i := 80) rfl, rfl, rfl⟩
theorem lk_0_69 : LinkP PP "PageCompactorY" 69 m12 := ⟨List.mem_of_getElem? (i := 94) rfl, List.mem_of_getElem? (i := 95) rfl, List.mem_of_getElem? (i := 96) rfl, List.mem_of_getElem? (i := 97) rfl, rfl, rfl⟩
theorem lk_0_73 : LinkP PP "PageCompactorY" 73 m14 := ⟨List.mem_of_getElem? (i := 103) rfl, List.mem_of_getElem? (i := 104) rfl, List.mem_of_getElem? (i := 105) rfl, List.mem_of_getElem? (i := 106) rfl, rfl, rfl⟩
theorem lk_0_76 : LinkP PP "PageCompactorY" 76 m6 := ⟨List.mem_of_getElem? (i := 73) rfl, List.mem_of_getElem? (i := 74) rfl, List.mem_of_getElem? (i := 75) rfl, List.mem_of_getElem? (i := 76) rfl, rfl, rfl⟩
theorem lk_0_80 : LinkP PP "PageCompactorY" 80 m18 := ⟨List.mem_of_getElem? (i := 116) rfl, List.mem_of_getElem? (i := 117) rfl, List.mem_of_getElem? (i := 118) rfl, List.mem_of_getElem? (i := 119) rfl, rfl, rfl⟩
theorem lk_0_84 : LinkP PP "PageCompactorY" 84 m19 := ⟨List.mem_of_getElem? (i := 124) rfl, List.mem_of_getElem? (i := 125) rfl, List.mem_of_getElem? (i := 126) rfl, List.mem_of_getElem? (i := 127) rfl, rfl, rfl⟩
theorem lk_0_88 : LinkP PP "PageCompactorY" 88 m21 := ⟨List.mem_of_getElem? (i := 184) rfl, List.mem_of_getElem? (i := 185) rfl, List.mem_of_getElem? (i := 186) rfl, List.mem_of_getElem? (i := 187) rfl, rfl, rfl⟩
theorem lk_0_91 : LinkP PP "PageCompactorY" 91 m29 := ⟨List.mem_of_getElem? (i := 218) rfl, List.mem_of_getElem? (i := 219) rfl, List.mem_of_getElem? (i := 220) rfl, List.mem_of_getElem? (i := 221) rfl, rfl, rfl⟩
theorem lk_0_95 : LinkP PP "PageCompactorY" 95 m31 := ⟨List.mem_of_getElem? (i := 233) rfl, List.mem_of_getElem? (i := 234) rfl, List.mem_of_getElem? (i := 235) rfl, List.mem_of_getElem? (i := 236) rfl, rfl, rfl⟩
theorem lk_0_110 : LinkP PP "PageCompactorY" 110 m34 := ⟨List.mem_of_getElem? (i := 146) rfl, List.mem_of_getElem? (i := 147) rfl, List.mem_of_getElem? (i := 148) rfl, List.mem_of_getElem? (i := 149) rfl, rfl, rfl⟩
theorem lk_0_113 : LinkP PP "PageCompactorY" 113 m36 := ⟨List.mem_of_getElem? (i := 154) rfl, List.mem_of_getElem? (i := 155) rfl, List.mem_of_getElem? (i := 156) rfl, List.mem_of_getElem? (i := 157) rfl, rfl, rfl⟩
theorem lk_0_116 : LinkP PP "PageCompactorY" 116 m37 := ⟨List.mem_of_getElem? (i := 162) rfl, List.mem_of_getElem? (i := 163) rfl, List.mem_of_getElem? (i := 164) rfl, List.mem_of_getElem? (i := 165) rfl, rfl, rfl⟩
theorem lk_0_120 : LinkP PP "PageCompactorY" 120 m39 := ⟨List.mem_of_getElem? (i := 256) rfl, List.mem_of_getElem? (i := 257) rfl, List.mem_of_getElem? (i := 258) rfl, List.mem_of_getElem? (i := 259) rfl, rfl, rfl⟩
theorem lk_0_123 : LinkP PP "PageCompactorY" 123 m42 := ⟨List.mem_of_getElem? (i := 171) rfl, List.mem_of_getElem? (i := 172) rfl, List.mem_of_getElem? (i := 173) rfl, List.mem_of_getElem? (i := 174) rfl, rfl, rfl⟩
theorem lk_0_126 : LinkP PP "PageCompactorY" 126 m28 := ⟨List.mem_of_getElem? (i := 222) rfl, List.mem_of_getElem? (i := 223) rfl, List.mem_of_getElem? (i := 224) rfl, List.mem_of_getElem? (i := 225) rfl, rfl, rfl⟩
theorem lk_0_129 : LinkP PP "PageCompactorY" 129 m3 := ⟨List.mem_of_getElem? (i := 47) rfl, List.mem_of_getElem? (i := 48) rfl, List.mem_of_getElem? (i := 49) rfl, List.mem_of_getElem? (i := 50) rfl, rfl, rfl⟩
theorem lk_0_145 : LinkP PP "PageCompactorY" 145 m11 := ⟨List.mem_of_getElem? (i := 98) rfl, List.mem_of_getElem? (i := 99) rfl, List.mem_of_getElem? (i := 100) rfl, List.mem_of_getElem? (i := 101) rfl, rfl, rfl⟩
theorem lk_0_150 : LinkP PP "PageCompactorY" 150 m30 := ⟨List.mem_of_getElem? (i := 237) rfl, List.mem_of_getElem? (i := 238) rfl, List.mem_of_getElem? (i := 239) rfl, List.mem_of_getElem? (i := 240) rfl, rfl, rfl⟩
theorem lk_0_153 : LinkP PP "PageCompactorY" 153 m13 := ⟨List.mem_of_getElem? (i := 107) rfl, List.mem_of_getElem? (i := 108) rfl, List.mem_of_getElem? (i := 109) rfl, List.mem_of_getElem? (i := 110) rfl, rfl, rfl⟩
theorem lk_0_156 : LinkP PP "PageCompactorY" 156 m17 := ⟨List.mem_of_getElem? (i := 120) rfl, List.mem_of_getElem? (i := 121) rfl, List.mem_of_getElem? (i := 122) rfl, List.mem_of_getElem? (i := 123) rfl, rfl, rfl⟩
theorem lk_0_159 : LinkP PP "PageCompactorY" 159 m27 := ⟨List.mem_of_getElem? (i := 226) rfl, List.mem_of_getElem? (i := 227) rfl, List.mem_of_getElem? (i := 228) rfl, List.mem_of_getElem? (i := 229) rfl, rfl, rfl⟩
theorem lk_0_172 : LinkP PP "PageCompactorY" 172 m33 := ⟨List.mem_of_getElem? (i := 150) rfl, List.mem_of_getElem? (i := 151) rfl, List.mem_of_getElem? (i := 152) rfl, List.mem_of_getElem? (i := 153) rfl, rfl, rfl⟩
theorem lk_0_176 : LinkP PP "PageCompactorY" 176 m35 := ⟨List.mem_of_getElem? (i := 158) rfl, List.mem_of_getElem? (i := 159) rfl, List.mem_of_getElem? (i := 160) rfl, List.mem_of_getElem? (i := 161) rfl, rfl, rfl⟩
theorem lk_0_179 : LinkP PP "PageCompactorY" 179 m38 := ⟨List.mem_of_getElem? (i := 260) rfl, List.mem_of_getElem? (i := 261) rfl, List.mem_of_getElem? (i := 262) rfl, List.mem_of_getElem? (i := 263) rfl, rfl, rfl⟩
theorem lk_1_7 : LinkS PP "PageCompactorYOwnLaw" 7 m1 := ⟨List.mem_of_getElem? (i := 4) rfl, List.mem_of_getElem? (i := 5) rfl, List.mem_of_getElem? (i := 2) rfl, List.mem_of_getElem? (i := 6) rfl, by decide⟩
theorem lk_1_13 : LinkV PP "PageCompactorYOwnLaw" 13 m15 := ⟨List.mem_of_getElem? (i := 64) rfl, List.mem_of_getElem? (i := 65) rfl, List.mem_of_getElem? (i := 67) rfl, List.mem_of_getElem? (i := 66) rfl, List.mem_of_getElem? (i := 68) rfl, rfl, rfl⟩
theorem lk_1_19 : LinkV PP "PageCompactorYOwnLaw" 19 m16 := ⟨List.mem_of_getElem? (i := 128) rfl, List.mem_of_getElem? (i := 129) rfl, List.mem_of_getElem? (i := 131) rfl, List.mem_of_getElem? (i := 130) rfl, List.mem_of_getElem? (i := 132) rfl, rfl, rfl⟩
theorem lk_1_23 : LinkV PP "PageCompactorYOwnLaw" 23 m20 := ⟨List.mem_of_getElem? (i := 111) rfl, List.mem_of_getElem? (i := 112) rfl, List.mem_of_getElem? (i := 114) rfl, List.mem_of_getElem? (i := 113) rfl, List.mem_of_getElem? (i := 115) rfl, rfl, rfl⟩
theorem lk_1_26 : LinkV PP "PageCompactorYOwnLaw" 26 m22 := ⟨List.mem_of_getElem? (i := 208) rfl, List.mem_of_getElem? (i := 209) rfl, List.mem_of_getElem? (i := 211) rfl, List.mem_of_getElem? (i := 210) rfl, List.mem_of_getElem? (i := 212) rfl, rfl, rfl⟩
theorem lk_1_30 : LinkV PP "PageCompactorYOwnLaw" 30 m23 := ⟨List.mem_of_getElem? (i := 188) rfl, List.mem_of_getElem? (i := 189) rfl, List.mem_of_getElem? (i := 191) rfl, List.mem_of_getElem? (i := 190) rfl, List.mem_of_getElem? (i := 192) rfl, rfl, rfl⟩
theorem lk_1_33 : LinkV PP "PageCompactorYOwnLaw" 33 m24 := ⟨List.mem_of_getElem? (i := 198) rfl, List.mem_of_getElem? (i := 199) rfl, List.mem_of_getElem? (i := 201) rfl, List.mem_of_getElem? (i := 200) rfl, List.mem_of_getElem? (i := 202) rfl, rfl, rfl⟩
theorem lk_1_37 : LinkV PP "PageCompactorYOwnLaw" 37 m25 := ⟨List.mem_of_getElem? (i := 251) rfl, List.mem_of_getElem? (i := 252) rfl, List.mem_of_getElem? (i := 254) rfl, List.mem_of_getElem? (i := 253) rfl, List.mem_of_getElem? (i := 255) rfl, rfl, rfl⟩
theorem lk_1_40 : LinkV PP "PageCompactorYOwnLaw" 40 m26 := ⟨List.mem_of_getElem? (i := 203) rfl, List.mem_of_getElem? (i := 204) rfl, List.mem_of_getElem? (i := 206) rfl, List.mem_of_getElem? (i := 205) rfl, List.mem_of_getElem? (i := 207) rfl, rfl, rfl⟩
theorem lk_1_43 : LinkV PP "PageCompactorYOwnLaw" 43 m32 := ⟨List.mem_of_getElem? (i := 213) rfl, List.mem_of_getElem? (i := 214) rfl, List.mem_of_getElem? (i := 216) rfl, List.mem_of_getElem? (i := 215) rfl, List.mem_of_getElem? (i := 217) rfl, rfl, rfl⟩
theorem lk_1_47 : LinkV PP "PageCompactorYOwnLaw" 47 m40 := ⟨List.mem_of_getElem? (i := 133) rfl, List.mem_of_getElem? (i := 134) rfl, List.mem_of_getElem? (i := 136) rfl, List.mem_of_getElem? (i := 135) rfl, List.mem_of_getElem? (i := 137) rfl, rfl, rfl⟩
theorem lk_1_50 : LinkS PP "PageCompactorYOwnLaw" 50 m0 := ⟨List.mem_of_getElem? (i := 0) rfl, List.mem_of_getElem? (i := 1) rfl, List.mem_of_getElem? (i := 2) rfl, List.mem_of_getElem? (i := 3) rfl, by decide⟩
theorem lk_1_54 : LinkI PP "PageCompactorYOwnLaw" 54 m5 := ⟨List.mem_of_getElem? (i := 10) rfl, List.mem_of_getElem? (i := 11) rfl, List.mem_of_getElem? (i := 12) rfl, rfl, rfl, rfl, rfl⟩
theorem lk_1_57 : LinkS PP "PageCompactorYOwnLaw" 57 m41 := ⟨List.mem_of_getElem? (i := 61) rfl, List.mem_of_getElem? (i := 62) rfl, List.mem_of_getElem? (i := 2) rfl, List.mem_of_getElem? (i := 63) rfl, by decide⟩
theorem lk_1_61 : LinkV PP "PageCompactorYOwnLaw" 61 m43 := ⟨List.mem_of_getElem? (i := 166) rfl, List.mem_of_getElem? (i := 167) rfl, List.mem_of_getElem? (i := 169) rfl, List.mem_of_getElem? (i := 168) rfl, List.mem_of_getElem? (i := 170) rfl, rfl, rfl⟩
theorem lk_1_65 : LinkV PP "PageCompactorYOwnLaw" 65 m44 := ⟨List.mem_of_getElem? (i := 179) rfl, List.mem_of_getElem? (i := 180) rfl, List.mem_of_getElem? (i := 182) rfl, List.mem_of_getElem? (i := 181) rfl, List.mem_of_getElem? (i := 183) rfl, rfl, rfl⟩
theorem lk_1_68 : LinkV PP "PageCompactorYOwnLaw" 68 m45 := ⟨List.mem_of_getElem? (i := 193) rfl, List.mem_of_getElem? (i := 194) rfl, List.mem_of_getElem? (i := 196) rfl, List.mem_of_getElem? (i := 195) rfl, List.mem_of_getElem? (i := 197) rfl, rfl, rfl⟩
theorem lk_1_71 : LinkV PP "PageCompactorYOwnLaw" 71 m46 := ⟨List.mem_of_getElem? (i := 241) rfl, List.mem_of_getElem? (i := 242) rfl, List.mem_of_getElem? (i := 244) rfl, List.mem_of_getElem? (i := 243) rfl, List.mem_of_getElem? (i := 245) rfl, rfl, rfl⟩
theorem lk_1_74 : LinkV PP "PageCompactorYOwnLaw" 74 m47 := ⟨List.mem_of_getElem? (i := 246) rfl, List.mem_of_getElem? (i := 247) rfl, List.mem_of_getElem? (i := 249) rfl, List.mem_of_getElem? (i := 248) rfl, List.mem_of_getElem? (i := 250) rfl, rfl, rfl⟩
theorem facts1 {Z : State} {a0 : Array Value} (hw : ∀ d ∈ tables_1, d.before a0 Z = true) : Facts Z a0 ci1 := by
  refine ⟨hw _ (List.mem_of_getElem? (i := 8) rfl), hw _ (List.mem_of_getElem? (i := 9) rfl), ?_, ?_, by decide, ?_, by decide⟩
  · intro f x hx
    match f, hx with
    | 0, hx => cases hx; exact ⟨Or.inl (hw _ (List.mem_of_getElem? (i := 40) rfl)), by decide⟩
    | 1, hx => cases hx; exact ⟨Or.inl (hw _ (List.mem_of_getElem? (i := 42) rfl)), by decide⟩
    | 2, hx => cases hx; exact ⟨Or.inl (hw _ (List.mem_of_getElem? (i := 52) rfl)), by decide⟩
    | 3, hx => cases hx; exact ⟨Or.inl (hw _ (List.mem_of_getElem? (i := 54) rfl)), by decide⟩
    | 4, hx => cases hx; exact ⟨Or.inl (hw _ (List.mem_of_getElem? (i := 56) rfl)), by decide⟩
    | 5, hx => cases hx; exact ⟨Or.inl (hw _ (List.mem_of_getElem? (i := 58) rfl)), by decide⟩
    | 6, hx => cases hx; exact ⟨Or.inl (hw _ (List.mem_of_getElem? (i := 60) rfl)), by decide⟩
    | 7, hx => cases hx; exact ⟨Or.inl (hw _ (List.mem_of_getElem? (i := 139) rfl)), by decide⟩
    | 8, hx => cases hx; exact ⟨Or.inl (hw _ (List.mem_of_getElem? (i := 141) rfl)), by decide⟩
    | 9, hx => cases hx; exact ⟨Or.inl (hw _ (List.mem_of_getElem? (i := 143) rfl)), by decide⟩
    | 10, hx => cases hx; exact ⟨Or.inl (hw _ (List.mem_of_getElem? (i := 145) rfl)), by decide⟩
    | n + 11, hx => simp [cS, ci1] at hx
  · intro q x hx
    match q, hx with
    | 0, hx => cases hx; exact ⟨Or.inr (hw _ (List.mem_of_getElem? (i := 18) rfl)), by decide⟩
    | 1, hx => cases hx; exact ⟨Or.inr (hw _ (List.mem_of_getElem? (i := 21) rfl)), by decide⟩
    | 2, hx => cases hx; exact ⟨Or.inr (hw _ (List.mem_of_getElem? (i := 23) rfl)), by decide⟩
    | 3, hx => cases hx; exact ⟨Or.inr (hw _ (List.mem_of_getElem? (i := 25) rfl)), by decide⟩
    | 4, hx => cases hx; exact ⟨Or.inr (hw _ (List.mem_of_getElem? (i := 27) rfl)), by decide⟩
    | 5, hx => cases hx; exact ⟨Or.inr (hw _ (List.mem_of_getElem? (i := 29) rfl)), by decide⟩
    | 6, hx => cases hx; exact ⟨Or.inr (hw _ (List.mem_of_getElem? (i := 31) rfl)), by decide⟩
    | 7, hx => cases hx; exact ⟨Or.inr (hw _ (List.mem_of_getElem? (i := 34) rfl)), by decide⟩
    | n + 8, hx => simp [cA, ci1] at hx
  · intro f x hx
    match f, hx with
    | 0, hx => cases hx; rfl
    | 1, hx => cases hx; rfl
    | 2, hx => cases hx; rfl
    | 3, hx => cases hx; rfl
    | 4, hx => cases hx; rfl
    | 5, hx => cases hx; rfl
    | 6, hx => cases hx; rfl
    | 7, hx => cases hx; rfl
    | 8, hx => cases hx; rfl
    | 9, hx => cases hx; rfl
    | 10, hx => cases hx; rfl
    | n + 11, hx => simp [cS, ci1] at hx
def k_clampInt  (v1 : Int32) (v2 : Int32) (v3 : Int32)  : Int32 :=
  if v1 < v2 then
    v2
  else
    if v3 < v1 then
      v3
    else
      v1
def k_lowMask  (v1 : Int32)  : Int64 :=
  if 0 < v1 then
    if v1 < (64 : Int32) then
      ((1 : Int64) <<< (v1.toInt64 &&& 63)) - (1 : Int64)
    else
      (-1 : Int64)
  else
    (0 : Int64)
def k_resetAll_63   (s : S) : Option S :=
  some (sI (sL (sL (sL (sL s 2 (k_lowMask (gI s 0))) 3 (0 : Int64)) 4 (0 : Int64)) 5 (0 : Int64)) 6 (1 : Int32))
def k_resetAll_2  : Nat → Int32 → S → Option S
  | 0, _, _ => none
  | n + 1, v1, s =>
    if v1 < (64 : Int32) then
      (Jvm.AM.st (gA s 0) v1 (nar .byte (0 : Int32))).bind fun a14 =>
      (Jvm.AM.st (gA s 1) v1 (0 : Int32)).bind fun a21 =>
      (Jvm.AM.st (gA s 2) v1 (0 : Int32)).bind fun a28 =>
      (Jvm.AM.st (gA s 3) v1 (-1 : Int32)).bind fun a35 =>
      (Jvm.AM.st (gA s 4) v1 (-1 : Int32)).bind fun a42 =>
      (Jvm.AM.st (gA s 5) v1 (-1 : Int32)).bind fun a49 =>
      (Jvm.AM.st (gA s 6) v1 (-1 : Int32)).bind fun a56 =>
      k_resetAll_2 n (v1 + (1 : Int32)) (sA (sA (sA (sA (sA (sA (sA s 0 a14) 1 a21) 2 a28) 3 a35) 4 a42) 5 a49) 6 a56)
    else
      k_resetAll_63 s
def k_resetAll   (s : S) : Option S :=
  k_resetAll_2 BIG (0 : Int32) s
def k_init  (v1 : Int32) (v2 : Int32)  : Option S :=
  (k_resetAll (sI (sI (sB (sA (sA (sA (sA (sA (sA (sA s0 0 (rep 64 0)) 1 (rep 64 0)) 2 (rep 64 0)) 3 (rep 64 0)) 4 (rep 64 0)) 5 (rep 64 0)) 6 (rep 64 0)) 7 (rep 7 0)) 0 (k_clampInt v1 (8 : Int32) (64 : Int32))) 1 (k_clampInt v2 (4 : Int32) (16 : Int32)))).bind fun r94 =>
  some r94
def k_pageInRange  (v1 : Int32) (v2 : Int32) (s : S) : Int32 :=
  if v1 < 0 then
    (0 : Int32)
  else
    if v1 < (4 : Int32) then
      if v2 < 0 then
        (0 : Int32)
      else
        if v2 < (gI s 1) then
          (1 : Int32)
        else
          (0 : Int32)
    else
      (0 : Int32)
def k_slotOf  (v1 : Int32) (v2 : Int32)  : Int32 :=
  (v1 * (16 : Int32)) + v2
def k_checkTarget  (v1 : Int32) (v2 : Int32) (s : S) : Option Int32 :=
  if (k_pageInRange v1 v2 s) = 0 then
    some (-1 : Int32)
  else
    (ix (gA s 3) (k_slotOf v1 v2)).bind fun a23 =>
    if a23 < 0 then
      some (0 : Int32)
    else
      some (-2 : Int32)
def k_lowestBit_116  (v3 : Int32) (v4 : Int64)  : Int32 :=
  if (v4 &&& (1 : Int64)) = (0 : Int64) then
    v3 + (1 : Int32)
  else
    v3
def k_lowestBit_96  (v3 : Int32) (v4 : Int64)  : Int32 :=
  k_lowestBit_116 (if (v4 &&& (3 : Int64)) = (0 : Int64) then v3 + (2 : Int32) else v3) (if (v4 &&& (3 : Int64)) = (0 : Int64) then XT.ushrL v4 (2 : Int32) else v4)
def k_lowestBit_76  (v3 : Int32) (v4 : Int64)  : Int32 :=
  k_lowestBit_96 (if (v4 &&& (15 : Int64)) = (0 : Int64) then v3 + (4 : Int32) else v3) (if (v4 &&& (15 : Int64)) = (0 : Int64) then XT.ushrL v4 (4 : Int32) else v4)
def k_lowestBit_55  (v3 : Int32) (v4 : Int64)  : Int32 :=
  k_lowestBit_76 (if (v4 &&& (255 : Int64)) = (0 : Int64) then v3 + (8 : Int32) else v3) (if (v4 &&& (255 : Int64)) = (0 : Int64) then XT.ushrL v4 (8 : Int32) else v4)
def k_lowestBit_34  (v3 : Int32) (v4 : Int64)  : Int32 :=
  k_lowestBit_55 (if (v4 &&& (65535 : Int64)) = (0 : Int64) then v3 + (16 : Int32) else v3) (if (v4 &&& (65535 : Int64)) = (0 : Int64) then XT.ushrL v4 (16 : Int32) else v4)
def k_lowestBit  (v1 : Int64)  : Int32 :=
  if v1 = (0 : Int64) then
    (-1 : Int32)
  else
    k_lowestBit_34 (if (v1 &&& (4294967295 : Int64)) = (0 : Int64) then (0 : Int32) + (32 : Int32) else (0 : Int32)) (if (v1 &&& (4294967295 : Int64)) = (0 : Int64) then XT.ushrL v1 (32 : Int32) else v1)
def k_frameInRange  (v1 : Int32) (s : S) : Int32 :=
  if v1 < 0 then
    (0 : Int32)
  else
    if v1 < (gI s 0) then
      (1 : Int32)
    else
      (0 : Int32)
def k_bitOf_10    : Int64 :=
  (0 : Int64)
def k_bitOf  (v1 : Int32)  : Int64 :=
  if v1 < 0 then
    k_bitOf_10
  else
    if (63 : Int32) < v1 then
      k_bitOf_10
    else
      (1 : Int64) <<< (v1.toInt64 &&& 63)
def k_enterState_134  (v1 : Int32) (v2 : Int32) (s : S) : Option S :=
  (Jvm.AM.st (gA s 0) v1 (nar .byte v2.toInt8.toInt32)).bind fun a141 =>
  some (sI (sA s 0 a141) 6 (1 : Int32))
def k_enterState  (v1 : Int32) (v2 : Int32) (s : S) : Option S :=
  if (k_frameInRange v1 s) = 0 then
    some s
  else
    if v2 = 0 then
      k_enterState_134 v1 v2 (sL (sL (sL (sL (sL s 2 ((gL s 2) &&& ((k_bitOf v1) ^^^ (-1 : Int64)))) 3 ((gL s 3) &&& ((k_bitOf v1) ^^^ (-1 : Int64)))) 4 ((gL s 4) &&& ((k_bitOf v1) ^^^ (-1 : Int64)))) 5 ((gL s 5) &&& ((k_bitOf v1) ^^^ (-1 : Int64)))) 2 (((gL s 2) &&& ((k_bitOf v1) ^^^ (-1 : Int64))) ||| (k_bitOf v1)))
    else
      if v2 = (1 : Int32) then
        k_enterState_134 v1 v2 (sL (sL (sL (sL (sL s 2 ((gL s 2) &&& ((k_bitOf v1) ^^^ (-1 : Int64)))) 3 ((gL s 3) &&& ((k_bitOf v1) ^^^ (-1 : Int64)))) 4 ((gL s 4) &&& ((k_bitOf v1) ^^^ (-1 : Int64)))) 5 ((gL s 5) &&& ((k_bitOf v1) ^^^ (-1 : Int64)))) 3 (((gL s 3) &&& ((k_bitOf v1) ^^^ (-1 : Int64))) ||| (k_bitOf v1)))
      else
        if v2 = (2 : Int32) then
          k_enterState_134 v1 v2 (sL (sL (sL (sL (sL s 2 ((gL s 2) &&& ((k_bitOf v1) ^^^ (-1 : Int64)))) 3 ((gL s 3) &&& ((k_bitOf v1) ^^^ (-1 : Int64)))) 4 ((gL s 4) &&& ((k_bitOf v1) ^^^ (-1 : Int64)))) 5 ((gL s 5) &&& ((k_bitOf v1) ^^^ (-1 : Int64)))) 4 (((gL s 4) &&& ((k_bitOf v1) ^^^ (-1 : Int64))) ||| (k_bitOf v1)))
        else
          k_enterState_134 v1 v2 (sL (sL (sL (sL (sL s 2 ((gL s 2) &&& ((k_bitOf v1) ^^^ (-1 : Int64)))) 3 ((gL s 3) &&& ((k_bitOf v1) ^^^ (-1 : Int64)))) 4 ((gL s 4) &&& ((k_bitOf v1) ^^^ (-1 : Int64)))) 5 ((gL s 5) &&& ((k_bitOf v1) ^^^ (-1 : Int64)))) 5 (((gL s 5) &&& ((k_bitOf v1) ^^^ (-1 : Int64))) ||| (k_bitOf v1)))
def k_rmapLink_38  (v1 : Int32) (v2 : Int32) (s : S) : Option S :=
  (Jvm.AM.st (gA s 4) v2 v1).bind fun a44 =>
  (Jvm.AM.st (gA s 3) v1 v2).bind fun a51 =>
  some (sA (sA s 4 a44) 3 a51)
def k_rmapLink  (v1 : Int32) (v2 : Int32) (s : S) : Option S :=
  (ix (gA s 4) v2).bind fun a5 =>
  (Jvm.AM.st (gA s 6) v1 (-1 : Int32)).bind fun a13 =>
  (Jvm.AM.st (gA s 5) v1 a5).bind fun a20 =>
  if a5 < 0 then
    k_rmapLink_38 v1 v2 (sA (sA s 6 a13) 5 a20)
  else
    if a5 < (64 : Int32) then
      (Jvm.AM.st a13 a5 v1).bind fun a37 =>
      k_rmapLink_38 v1 v2 (sA (sA (sA s 6 a13) 5 a20) 6 a37)
    else
      k_rmapLink_38 v1 v2 (sA (sA s 6 a13) 5 a20)
def k_attachPage  (v1 : Int32) (v2 : Int32) (s : S) : Option S :=
  if v1 < 0 then
    some s
  else
    if v1 < (64 : Int32) then
      if (k_frameInRange v2 s) = 0 then
        some s
      else
        (k_rmapLink v1 v2 s).bind fun r22 =>
        (ix (gA r22 2) v2).bind fun a35 =>
        (Jvm.AM.st (gA r22 2) v2 (a35 + (1 : Int32))).bind fun a38 =>
        some (sA r22 2 a38)
    else
      some s
def k_mapNew  (v1 : Int32) (v2 : Int32) (v3 : Int32) (s : S) : Option (Int32 × S) :=
  (k_checkTarget v1 v2 s).bind fun r3 =>
  if r3 = 0 then
    if (gL s 2) = (0 : Int64) then
      some ((-4 : Int32), s)
    else
      if (k_frameInRange (k_lowestBit (gL s 2)) s) = 0 then
        some ((-4 : Int32), s)
      else
        (k_enterState (k_lowestBit (gL s 2)) (1 : Int32) s).bind fun r62 =>
        (Jvm.AM.st (gA r62 1) (k_lowestBit (gL s 2)) v3).bind fun a72 =>
        (Jvm.AM.st (gA r62 2) (k_lowestBit (gL s 2)) (0 : Int32)).bind fun a80 =>
        (k_attachPage (k_slotOf v1 v2) (k_lowestBit (gL s 2)) (sA (sA r62 1 a72) 2 a80)).bind fun r86 =>
        some ((k_lowestBit (gL s 2)), r86)
  else
    some (r3, s)
def k_share  (v1 : Int32) (v2 : Int32) (v3 : Int32) (v4 : Int32) (s : S) : Option (Int32 × S) :=
  if (k_pageInRange v1 v2 s) = 0 then
    some ((-1 : Int32), s)
  else
    if (k_pageInRange v3 v4 s) = 0 then
      some ((-1 : Int32), s)
    else
      (ix (gA s 3) (k_slotOf v1 v2)).bind fun a37 =>
      if a37 < 0 then
        (ix (gA s 3) (k_slotOf v3 v4)).bind fun a59 =>
        if (k_frameInRange a59 s) = 0 then
          some ((-3 : Int32), s)
        else
          (k_attachPage (k_slotOf v1 v2) a59 s).bind fun r79 =>
          some (a59, r79)
      else
        some ((-2 : Int32), s)
def k_rmapUnlink_95  (v1 : Int32) (v2 : Int32) (s : S) : Option (Int32 × S) :=
  (Jvm.AM.st (gA s 6) v1 (-1 : Int32)).bind fun a101 =>
  (Jvm.AM.st (gA s 5) v1 (-1 : Int32)).bind fun a108 =>
  (Jvm.AM.st (gA s 3) v1 (-1 : Int32)).bind fun a115 =>
  some (v2, sA (sA (sA s 6 a101) 5 a108) 3 a115)
def k_rmapUnlink_75  (v1 : Int32) (v2 : Int32) (v3 : Int32) (v4 : Int32) (s : S) : Option (Int32 × S) :=
  if v4 < 0 then
    k_rmapUnlink_95 v1 v2 s
  else
    if v4 < (64 : Int32) then
      (Jvm.AM.st (gA s 6) v4 v3).bind fun a94 =>
      k_rmapUnlink_95 v1 v2 (sA s 6 a94)
    else
      k_rmapUnlink_95 v1 v2 s
def k_rmapUnlink_67  (v1 : Int32) (v2 : Int32) (v3 : Int32) (v4 : Int32) (s : S) : Option (Int32 × S) :=
  (Jvm.AM.st (gA s 4) v2 v4).bind fun a74 =>
  k_rmapUnlink_75 v1 v2 v3 v4 (sA s 4 a74)
def k_rmapUnlink  (v1 : Int32) (s : S) : Option (Int32 × S) :=
  if v1 < 0 then
    some ((-1 : Int32), s)
  else
    if v1 < (64 : Int32) then
      (ix (gA s 3) v1).bind fun a17 =>
      if a17 < 0 then
        some ((-1 : Int32), s)
      else
        if a17 < (64 : Int32) then
          (ix (gA s 6) v1).bind fun a36 =>
          (ix (gA s 5) v1).bind fun a43 =>
          if a36 < 0 then
            k_rmapUnlink_67 v1 a17 a36 a43 s
          else
            if a36 < (64 : Int32) then
              (Jvm.AM.st (gA s 5) a36 a43).bind fun a63 =>
              k_rmapUnlink_75 v1 a17 a36 a43 (sA s 5 a63)
            else
              k_rmapUnlink_67 v1 a17 a36 a43 s
        else
          some ((-1 : Int32), s)
    else
      some ((-1 : Int32), s)
def k_detachPage  (v1 : Int32) (s : S) : Option (Int32 × S) :=
  (k_rmapUnlink v1 s).bind fun r2 =>
  if (k_frameInRange r2.1 r2.2) = 0 then
    some ((-1 : Int32), r2.2)
  else
    (ix (gA r2.2 2) r2.1).bind fun a26 =>
    (Jvm.AM.st (gA r2.2 2) r2.1 (a26 - (1 : Int32))).bind fun a29 =>
    some (r2.1, sA r2.2 2 a29)
def k_freeFrame  (v1 : Int32) (s : S) : Option S :=
  if (k_frameInRange v1 s) = 0 then
    some s
  else
    (Jvm.AM.st (gA s 1) v1 (0 : Int32)).bind fun a15 =>
    (Jvm.AM.st (gA s 2) v1 (0 : Int32)).bind fun a22 =>
    (Jvm.AM.st (gA s 4) v1 (-1 : Int32)).bind fun a29 =>
    (k_enterState v1 (0 : Int32) (sA (sA (sA s 1 a15) 2 a22) 4 a29)).bind fun r33 =>
    some r33
def k_unmap  (v1 : Int32) (v2 : Int32) (s : S) : Option (Int32 × S) :=
  if (k_pageInRange v1 v2 s) = 0 then
    some ((-1 : Int32), s)
  else
    (ix (gA s 3) (k_slotOf v1 v2)).bind fun a23 =>
    if a23 < 0 then
      some ((-3 : Int32), s)
    else
      (k_detachPage (k_slotOf v1 v2) s).bind fun r32 =>
      if (k_frameInRange r32.1 r32.2) = 0 then
        some ((-3 : Int32), r32.2)
      else
        (ix (gA r32.2 2) r32.1).bind fun a55 =>
        if 0 < a55 then
          some (r32.1, r32.2)
        else
          (k_freeFrame r32.1 r32.2).bind fun r62 =>
          some (r32.1, r62)
def k_mappedFrame  (v1 : Int32) (v2 : Int32) (s : S) : Option Int32 :=
  if (k_pageInRange v1 v2 s) = 0 then
    some (-1 : Int32)
  else
    (ix (gA s 3) (k_slotOf v1 v2)).bind fun a23 =>
    if (k_frameInRange a23 s) = 0 then
      some (-1 : Int32)
    else
      some a23
def k_write  (v1 : Int32) (v2 : Int32) (v3 : Int32) (s : S) : Option (Int32 × S) :=
  (k_mappedFrame v1 v2 s).bind fun r3 =>
  if r3 < 0 then
    some ((0 : Int32), s)
  else
    (Jvm.AM.st (gA s 1) r3 v3).bind fun a22 =>
    some ((1 : Int32), sA s 1 a22)
def k_frameOf  (v1 : Int32) (v2 : Int32) (s : S) : Option Int32 :=
  (k_mappedFrame v1 v2 s).bind fun r3 =>
  if r3 < 0 then
    some (-1 : Int32)
  else
    some r3
def k_pin  (v1 : Int32) (s : S) : Option (Int32 × S) :=
  if (k_frameInRange v1 s) = 0 then
    some ((0 : Int32), s)
  else
    (ix (gA s 0) v1).bind fun a15 =>
    if a15 = (1 : Int32) then
      (k_enterState v1 (2 : Int32) s).bind fun r25 =>
      some ((1 : Int32), r25)
    else
      some ((0 : Int32), s)
def k_unpin  (v1 : Int32) (s : S) : Option (Int32 × S) :=
  if (k_frameInRange v1 s) = 0 then
    some ((0 : Int32), s)
  else
    (ix (gA s 0) v1).bind fun a15 =>
    if a15 = (2 : Int32) then
      (k_enterState v1 (1 : Int32) s).bind fun r25 =>
      some ((1 : Int32), r25)
    else
      some ((0 : Int32), s)
def k_release  (v1 : Int32) (s : S) : Option (Int32 × S) :=
  if (k_frameInRange v1 s) = 0 then
    some ((0 : Int32), s)
  else
    (ix (gA s 0) v1).bind fun a15 =>
    if a15 = (3 : Int32) then
      (k_freeFrame v1 s).bind fun r24 =>
      some ((1 : Int32), r24)
    else
      some ((0 : Int32), s)
def k_alignMask  (v1 : Int32)  : Int64 :=
  if v1 = 0 then
    (-1 : Int64)
  else
    if v1 = (1 : Int32) then
      (6148914691236517205 : Int64)
    else
      if v1 = (2 : Int32) then
        (1229782938247303441 : Int64)
      else
        if v1 = (3 : Int32) then
          (72340172838076673 : Int64)
        else
          if v1 = (4 : Int32) then
            (281479271743489 : Int64)
          else
            if v1 = (5 : Int32) then
              (4294967297 : Int64)
            else
              if v1 = (6 : Int32) then
                (1 : Int64)
              else
                (0 : Int64)
def k_refreshRuns_65   (s : S) : Option S :=
  some (sI s 6 (0 : Int32))
def k_refreshRuns_22  : Nat → Int64 → Int32 → S → Option S
  | 0, _, _, _ => none
  | n + 1, v1, v3, s =>
    if (6 : Int32) < v3 then
      k_refreshRuns_65 s
    else
      (Jvm.AM.st (gB s 7) v3 ((v1 &&& (XT.ushrL v1 ((1 : Int32) <<< ((v3 - (1 : Int32)) &&& 31)))) &&& (k_alignMask v3))).bind fun a58 =>
      k_refreshRuns_22 n ((v1 &&& (XT.ushrL v1 ((1 : Int32) <<< ((v3 - (1 : Int32)) &&& 31)))) &&& (k_alignMask v3)) (v3 + (1 : Int32)) (sB s 7 a58)
def k_refreshRuns   (s : S) : Option S :=
  if (gI s 6) = 0 then
    some s
  else
    (Jvm.AM.st (gB s 7) (0 : Int32) (gL s 2)).bind fun a19 =>
    k_refreshRuns_22 BIG (gL s 2) (1 : Int32) (sB s 7 a19)
def k_freeRunsOfOrder_10   (s : S) : Option (Int64 × S) :=
  some ((0 : Int64), s)
def k_freeRunsOfOrder  (v1 : Int32) (s : S) : Option (Int64 × S) :=
  if v1 < 0 then
    k_freeRunsOfOrder_10 s
  else
    if (6 : Int32) < v1 then
      k_freeRunsOfOrder_10 s
    else
      (k_refreshRuns s).bind fun r13 =>
      (ix (gB r13 7) v1).bind fun a21 =>
      some (a21, r13)
def k_reserveFrame  (v1 : Int32) (s : S) : Option S :=
  if (k_frameInRange v1 s) = 0 then
    some s
  else
    (Jvm.AM.st (gA s 1) v1 (0 : Int32)).bind fun a15 =>
    (Jvm.AM.st (gA s 2) v1 (0 : Int32)).bind fun a22 =>
    (Jvm.AM.st (gA s 4) v1 (-1 : Int32)).bind fun a29 =>
    (k_enterState v1 (3 : Int32) (sA (sA (sA s 1 a15) 2 a22) 4 a29)).bind fun r33 =>
    some r33
def k_reserveRun_7  : Nat → Int32 → Int32 → Int32 → S → Option S
  | 0, _, _, _, _ => none
  | n + 1, v1, v3, v4, s =>
    if v4 < v3 then
      if v4 < (64 : Int32) then
        (k_reserveFrame (v1 + v4) s).bind fun r25 =>
        k_reserveRun_7 n v1 v3 (v4 + (1 : Int32)) r25
      else
        some s
    else
      some s
def k_reserveRun  (v1 : Int32) (v2 : Int32) (s : S) : Option S :=
  k_reserveRun_7 BIG v1 ((1 : Int32) <<< (v2 &&& 31)) (0 : Int32) s
def k_allocBlock  (v1 : Int32) (s : S) : Option (Int32 × S) :=
  if v1 < 0 then
    some ((-1 : Int32), s)
  else
    if (6 : Int32) < v1 then
      some ((-1 : Int32), s)
    else
      (k_freeRunsOfOrder v1 s).bind fun r14 =>
      if r14.1 = (0 : Int64) then
        some ((-4 : Int32), r14.2)
      else
        if (k_frameInRange (k_lowestBit r14.1) r14.2) = 0 then
          some ((-4 : Int32), r14.2)
        else
          (k_reserveRun (k_lowestBit r14.1) v1 r14.2).bind fun r50 =>
          some ((k_lowestBit r14.1), r50)
def k_rangeMask  (v1 : Int32) (v2 : Int32)  : Int64 :=
  if v1 < v2 then
    (k_lowMask v2) &&& ((k_lowMask v1) ^^^ (-1 : Int64))
  else
    (0 : Int64)
def k_advanceMigrateScanner   (s : S) : S :=
  if (gI s 9) < (gI s 10) then
    if ((gL s 3) &&& (k_rangeMask (gI s 9) (gI s 10))) = (0 : Int64) then
      sI s 9 (gI s 10)
    else
      sI s 9 (k_lowestBit ((gL s 3) &&& (k_rangeMask (gI s 9) (gI s 10))))
  else
    s
def k_highestBit_109  (v3 : Int32) (v4 : Int64)  : Int32 :=
  if (XT.ushrL v4 (1 : Int32)) = (0 : Int64) then
    v3
  else
    v3 + (1 : Int32)
def k_highestBit_91  (v3 : Int32) (v4 : Int64)  : Int32 :=
  k_highestBit_109 (if (XT.ushrL v4 (2 : Int32)) = (0 : Int64) then v3 else v3 + (2 : Int32)) (if (XT.ushrL v4 (2 : Int32)) = (0 : Int64) then v4 else XT.ushrL v4 (2 : Int32))
def k_highestBit_73  (v3 : Int32) (v4 : Int64)  : Int32 :=
  k_highestBit_91 (if (XT.ushrL v4 (4 : Int32)) = (0 : Int64) then v3 else v3 + (4 : Int32)) (if (XT.ushrL v4 (4 : Int32)) = (0 : Int64) then v4 else XT.ushrL v4 (4 : Int32))
def k_highestBit_53  (v3 : Int32) (v4 : Int64)  : Int32 :=
  k_highestBit_73 (if (XT.ushrL v4 (8 : Int32)) = (0 : Int64) then v3 else v3 + (8 : Int32)) (if (XT.ushrL v4 (8 : Int32)) = (0 : Int64) then v4 else XT.ushrL v4 (8 : Int32))
def k_highestBit_33  (v3 : Int32) (v4 : Int64)  : Int32 :=
  k_highestBit_53 (if (XT.ushrL v4 (16 : Int32)) = (0 : Int64) then v3 else v3 + (16 : Int32)) (if (XT.ushrL v4 (16 : Int32)) = (0 : Int64) then v4 else XT.ushrL v4 (16 : Int32))
def k_highestBit  (v1 : Int64)  : Int32 :=
  if v1 = (0 : Int64) then
    (-1 : Int32)
  else
    k_highestBit_33 (if (XT.ushrL v1 (32 : Int32)) = (0 : Int64) then (0 : Int32) else (0 : Int32) + (32 : Int32)) (if (XT.ushrL v1 (32 : Int32)) = (0 : Int64) then v1 else XT.ushrL v1 (32 : Int32))
def k_retreatFreeScanner   (s : S) : S :=
  if (gI s 9) < (gI s 10) then
    if ((gL s 2) &&& (k_rangeMask ((gI s 9) + (1 : Int32)) ((gI s 10) + (1 : Int32)))) = (0 : Int64) then
      sI s 10 (gI s 9)
    else
      sI s 10 (k_highestBit ((gL s 2) &&& (k_rangeMask ((gI s 9) + (1 : Int32)) ((gI s 10) + (1 : Int32)))))
  else
    s
def k_scannersDone   (s : S) : Int32 :=
  if (gI s 9) < (gI s 10) then
    if (gI s 8) = (gI s 7) then
      (1 : Int32)
    else
      (0 : Int32)
  else
    (1 : Int32)
def k_rmapTransfer_47  (v1 : Int32) (v2 : Int32) (s : S) : Option S :=
  (ix (gA s 4) v1).bind fun a57 =>
  (Jvm.AM.st (gA s 4) v2 a57).bind fun a58 =>
  (Jvm.AM.st a58 v1 (-1 : Int32)).bind fun a65 =>
  some (sA (sA s 4 a58) 4 a65)
def k_rmapTransfer_10  : Nat → Int32 → Int32 → Int32 → Int32 → S → Option S
  | 0, _, _, _, _, _ => none
  | n + 1, v1, v2, v3, v4, s =>
    if v4 < (64 : Int32) then
      if v3 < 0 then
        k_rmapTransfer_47 v1 v2 s
      else
        if v3 < (64 : Int32) then
          (Jvm.AM.st (gA s 3) v3 v2).bind fun a33 =>
          (ix (gA s 5) v3).bind fun a39 =>
          k_rmapTransfer_10 n v1 v2 a39 (v4 + (1 : Int32)) (sA s 3 a33)
        else
          k_rmapTransfer_47 v1 v2 s
    else
      k_rmapTransfer_47 v1 v2 s
def k_rmapTransfer  (v1 : Int32) (v2 : Int32) (s : S) : Option S :=
  (ix (gA s 4) v1).bind fun a5 =>
  k_rmapTransfer_10 BIG v1 v2 a5 (0 : Int32) s
def k_migrateFrame  (v1 : Int32) (v2 : Int32) (s : S) : Option S :=
  if (k_frameInRange v1 s) = 0 then
    some s
  else
    if (k_frameInRange v2 s) = 0 then
      some s
    else
      (ix (gA s 0) v1).bind fun a22 =>
      if a22 = (1 : Int32) then
        (ix (gA s 0) v2).bind fun a32 =>
        if a32 = 0 then
          (ix (gA s 1) v1).bind fun a42 =>
          (ix (gA s 2) v1).bind fun a49 =>
          (k_enterState v2 (1 : Int32) s).bind fun r55 =>
          (Jvm.AM.st (gA r55 1) v2 a42).bind fun a64 =>
          (Jvm.AM.st (gA r55 2) v2 a49).bind fun a72 =>
          (k_rmapTransfer v1 v2 (sA (sA r55 1 a64) 2 a72)).bind fun r76 =>
          (k_freeFrame v1 r76).bind fun r81 =>
          some r81
        else
          some s
      else
        some s
def k_compact_34  : Nat → Int32 → S → Option (Int32 × S)
  | 0, _, _ => none
  | n + 1, v2, s =>
    if (65 : Int32) < v2 then
      some (gI s 8, s)
    else
      if (k_scannersDone (k_retreatFreeScanner (k_advanceMigrateScanner s))) = 0 then
        (k_migrateFrame (gI (k_retreatFreeScanner (k_advanceMigrateScanner s)) 9) (gI (k_retreatFreeScanner (k_advanceMigrateScanner s)) 10) (k_retreatFreeScanner (k_advanceMigrateScanner s))).bind fun r67 =>
        k_compact_34 n (v2 + (1 : Int32)) (sI (sI (sI r67 8 ((gI r67 8) + (1 : Int32))) 9 ((gI r67 9) + (1 : Int32))) 10 ((gI r67 10) - (1 : Int32)))
      else
        some (gI (k_retreatFreeScanner (k_advanceMigrateScanner s)) 8, (k_retreatFreeScanner (k_advanceMigrateScanner s)))
def k_compact  (v1 : Int32) (s : S) : Option (Int32 × S) :=
  k_compact_34 BIG (0 : Int32) (sI (sI (sI (sI s 7 (k_clampInt v1 (0 : Int32) (64 : Int32))) 8 (0 : Int32)) 9 (0 : Int32)) 10 ((gI s 0) - (1 : Int32)))
def k_bitCount_34  (v3 : Int64)  : Int32 :=
  (XT.ushrL (v3 * (72340172838076673 : Int64)) (56 : Int32)).toInt32
def k_bitCount  (v1 : Int64)  : Int32 :=
  k_bitCount_34 (((((v1 - ((XT.ushrL v1 (1 : Int32)) &&& (6148914691236517205 : Int64))) &&& (3689348814741910323 : Int64)) + ((XT.ushrL (v1 - ((XT.ushrL v1 (1 : Int32)) &&& (6148914691236517205 : Int64))) (2 : Int32)) &&& (3689348814741910323 : Int64))) + (XT.ushrL (((v1 - ((XT.ushrL v1 (1 : Int32)) &&& (6148914691236517205 : Int64))) &&& (3689348814741910323 : Int64)) + ((XT.ushrL (v1 - ((XT.ushrL v1 (1 : Int32)) &&& (6148914691236517205 : Int64))) (2 : Int32)) &&& (3689348814741910323 : Int64))) (4 : Int32))) &&& (1085102592571150095 : Int64))
def k_freeCount   (s : S) : Int32 :=
  (k_bitCount (gL s 2))
def k_read  (v1 : Int32) (v2 : Int32) (s : S) : Option Int32 :=
  (k_mappedFrame v1 v2 s).bind fun r3 =>
  if r3 < 0 then
    some (0 : Int32)
  else
    (ix (gA s 1) r3).bind fun a18 =>
    some a18
def k_frameState  (v1 : Int32) (s : S) : Option Int32 :=
  if (k_frameInRange v1 s) = 0 then
    some (-1 : Int32)
  else
    (ix (gA s 0) v1).bind fun a15 =>
    some a15
def k_frameValue  (v1 : Int32) (s : S) : Option Int32 :=
  if (k_frameInRange v1 s) = 0 then
    some (0 : Int32)
  else
    (ix (gA s 0) v1).bind fun a15 =>
    if a15 = 0 then
      some (0 : Int32)
    else
      if a15 = (3 : Int32) then
        some (0 : Int32)
      else
        (ix (gA s 1) v1).bind fun a33 =>
        some a33
def k_mapCount  (v1 : Int32) (s : S) : Option Int32 :=
  if (k_frameInRange v1 s) = 0 then
    some (0 : Int32)
  else
    (ix (gA s 2) v1).bind fun a15 =>
    some a15
def h_cell  (v1 : Int32) (q : List Int32) : Option Int32 :=
  if v1 < q.length.toInt32 then
    (ix q v1).bind fun a8 =>
    some a8
  else
    some (0 : Int32)
def h_mod  (v0 : Int32) (v1 : Int32)  : Option Int32 :=
  if v1 = 0 then none else
  if (v0 % v1) < 0 then
    some ((v0 % v1) + v1)
  else
    some (v0 % v1)
def h_apply_22  (v4 : Int32) (v7 : Int32) (v8 : Int32) (t0 : S) : Option S :=
  (k_mapNew v7 v8 v4 t0).bind fun r29 =>
  some r29.2
def h_apply  (v1 : Int32) (v2 : Int32) (v3 : Int32) (v4 : Int32) (v5 : Int32) (v6 : Int32) (t0 : S) : Option S :=
  (h_mod v3 v5).bind fun r8 =>
  if v1 = 0 then
    h_apply_22 v4 (v2 &&& (3 : Int32)) r8 t0
  else
    if v1 = (1 : Int32) then
      h_apply_22 v4 (v2 &&& (3 : Int32)) r8 t0
    else
      if v1 = (2 : Int32) then
        (h_mod (XT.ushr v4 (2 : Int32)) v5).bind fun r56 =>
        (k_share (v2 &&& (3 : Int32)) r8 (v4 &&& (3 : Int32)) r56 t0).bind fun r59 =>
        some r59.2
      else
        if v1 = (3 : Int32) then
          (k_unmap (v2 &&& (3 : Int32)) r8 t0).bind fun r76 =>
          some r76.2
        else
          if v1 = (4 : Int32) then
            (k_write (v2 &&& (3 : Int32)) r8 v4 t0).bind fun r95 =>
            some r95.2
          else
            if v1 = (5 : Int32) then
              (k_frameOf (v2 &&& (3 : Int32)) r8 t0).bind fun r113 =>
              (k_pin r113 t0).bind fun r116 =>
              some r116.2
            else
              if v1 = (6 : Int32) then
                if (v2 &&& (4 : Int32)) = 0 then
                  (k_frameOf (v2 &&& (3 : Int32)) r8 t0).bind fun r141 =>
                  (k_unpin r141 t0).bind fun r144 =>
                  some r144.2
                else
                  (h_mod v3 v6).bind fun r155 =>
                  (k_release r155 t0).bind fun r158 =>
                  some r158.2
              else
                (h_mod (v2 >>> ((2 : Int32) &&& 31)) (3 : Int32)).bind fun r169 =>
                if r169 = 0 then
                  (h_mod v3 (4 : Int32)).bind fun r182 =>
                  (k_allocBlock r182 t0).bind fun r185 =>
                  some r185.2
                else
                  if r169 = (1 : Int32) then
                    (h_mod v4 (8 : Int32)).bind fun r203 =>
                    (k_compact r203 t0).bind fun r206 =>
                    some r206.2
                  else
                    (h_mod v3 v6).bind fun r217 =>
                    (k_release r217 t0).bind fun r220 =>
                    some r220.2
def law_627 (k509 : Int32 → Int32 → Int32 → List Int32 → S → S → Option (Int32 × S × S)) (k552 : Int32 → Int32 → Int32 → Int32 → Int32 → Int32 → List Int32 → S → S → Option (Int32 × S × S)) (v2 : Int32) (v8 : Int32) (v10 : Int32) (v11 : Int32) (v12 : Int32) (v13 : Int32) (v16 : Int32) (p0 : Int32) (q : List Int32) (t0 : S) (t1 : S) : Option (Int32 × S × S) :=
  if v16 = p0 then
    k552 v2 v8 v10 v11 v12 (v13 + (1 : Int32)) q t0 t1
  else
    some ((0 : Int32), t0, t1)
def law_607 (k509 : Int32 → Int32 → Int32 → List Int32 → S → S → Option (Int32 × S × S)) (k552 : Int32 → Int32 → Int32 → Int32 → Int32 → Int32 → List Int32 → S → S → Option (Int32 × S × S)) (v2 : Int32) (v8 : Int32) (v10 : Int32) (v11 : Int32) (v12 : Int32) (v13 : Int32) (v15 : Int32) (p0 : Int32) (q : List Int32) (t0 : S) (t1 : S) : Option (Int32 × S × S) :=
  law_627 k509 k552 v2 v8 v10 v11 v12 v13 p0 (if v12 = (-1 : Int32) then (0 : Int32) else if v12 = v15 then (1 : Int32) else (0 : Int32)) q t0 t1
def law_552 (k509 : Int32 → Int32 → Int32 → List Int32 → S → S → Option (Int32 × S × S)) : Nat → Int32 → Int32 → Int32 → Int32 → Int32 → Int32 → List Int32 → S → S → Option (Int32 × S × S)
  | 0, _, _, _, _, _, _, _, _, _ => none
  | n + 1, v2, v8, v10, v11, v12, v13, q, t0, t1 =>
    if v13 < v8 then
      if v2 = 0 then none else
      if v2 = 0 then none else
      (k_frameOf (v13 / v2) (v13 % v2) t0).bind fun r569 =>
      if v2 = 0 then none else
      if v2 = 0 then none else
      (k_frameOf (v13 / v2) (v13 % v2) t1).bind fun r584 =>
      law_607 k509 (fun v2 v8 v10 v11 v12 v13 q t0 t1 => law_552 k509 n v2 v8 v10 v11 v12 v13 q t0 t1) v2 v8 v10 v11 v12 v13 r584 (if v11 = (-1 : Int32) then (0 : Int32) else if v11 = r569 then (1 : Int32) else (0 : Int32)) q t0 t1
    else
      k509 v2 v8 (v10 + (1 : Int32)) q t0 t1
def law_509  : Nat → Int32 → Int32 → Int32 → List Int32 → S → S → Option (Int32 × S × S)
  | 0, _, _, _, _, _, _ => none
  | n + 1, v2, v8, v10, q, t0, t1 =>
    if v10 < v8 then
      if v2 = 0 then none else
      if v2 = 0 then none else
      (k_frameOf (v10 / v2) (v10 % v2) t0).bind fun r526 =>
      if v2 = 0 then none else
      if v2 = 0 then none else
      (k_frameOf (v10 / v2) (v10 % v2) t1).bind fun r541 =>
      law_552 (fun v2 v8 v10 q t0 t1 => law_509 n v2 v8 v10 q t0 t1) BIG v2 v8 v10 r526 r541 (v10 + (1 : Int32)) q t0 t1
    else
      some ((1 : Int32), t0, t1)
def law_497  (v2 : Int32) (v6 : Int32) (v8 : Int32) (v9 : Int32) (q : List Int32) (t0 : S) (t1 : S) : Option (Int32 × S × S) :=
  if v9 = v6 then
    law_509 BIG v2 v8 (0 : Int32) q t0 t1
  else
    some ((0 : Int32), t0, t1)
def law_480 (k322 : Int32 → Int32 → Int32 → Int32 → Int32 → Int32 → List Int32 → S → S → Option (Int32 × S × S)) (k423 : Int32 → Int32 → Int32 → Int32 → Int32 → Int32 → Int32 → List Int32 → S → S → Option (Int32 × S × S)) (v1 : Int32) (v2 : Int32) (v6 : Int32) (v8 : Int32) (v9 : Int32) (v10 : Int32) (v12 : Int32) (p0 : Int32) (p1 : Int32) (q : List Int32) (t0 : S) (t1 : S) : Option (Int32 × S × S) :=
  if p1 = p0 then
    k423 v1 v2 v6 v8 v9 v10 (v12 + (1 : Int32)) q t0 t1
  else
    some ((0 : Int32), t0, t1)
def law_461 (k322 : Int32 → Int32 → Int32 → Int32 → Int32 → Int32 → List Int32 → S → S → Option (Int32 × S × S)) (k423 : Int32 → Int32 → Int32 → Int32 → Int32 → Int32 → Int32 → List Int32 → S → S → Option (Int32 × S × S)) (v1 : Int32) (v2 : Int32) (v6 : Int32) (v8 : Int32) (v9 : Int32) (v10 : Int32) (v12 : Int32) (v13 : Int32) (v14 : Int32) (p0 : Int32) (q : List Int32) (t0 : S) (t1 : S) : Option (Int32 × S × S) :=
  (k_frameOf v13 v14 t1).bind fun r467 =>
  law_480 k322 k423 v1 v2 v6 v8 v9 v10 v12 (if r467 = v10 then (1 : Int32) else (0 : Int32)) p0 q t0 t1
def law_423 (k322 : Int32 → Int32 → Int32 → Int32 → Int32 → Int32 → List Int32 → S → S → Option (Int32 × S × S)) : Nat → Int32 → Int32 → Int32 → Int32 → Int32 → Int32 → Int32 → List Int32 → S → S → Option (Int32 × S × S)
  | 0, _, _, _, _, _, _, _, _, _, _ => none
  | n + 1, v1, v2, v6, v8, v9, v10, v12, q, t0, t1 =>
    if v12 < v8 then
      if v2 = 0 then none else
      if v2 = 0 then none else
      (k_frameOf (v12 / v2) (v12 % v2) t0).bind fun r448 =>
      law_461 k322 (fun v1 v2 v6 v8 v9 v10 v12 q t0 t1 => law_423 k322 n v1 v2 v6 v8 v9 v10 v12 q t0 t1) v1 v2 v6 v8 v9 v10 v12 (v12 / v2) (v12 % v2) (if r448 = v10 then (1 : Int32) else (0 : Int32)) q t0 t1
    else
      k322 v1 v2 v6 v8 v9 (v10 + (1 : Int32)) q t0 t1
def law_368 (k322 : Int32 → Int32 → Int32 → Int32 → Int32 → Int32 → List Int32 → S → S → Option (Int32 × S × S)) (v1 : Int32) (v2 : Int32) (v6 : Int32) (v8 : Int32) (v9 : Int32) (v10 : Int32) (v11 : Int32) (q : List Int32) (t0 : S) (t1 : S) : Option (Int32 × S × S) :=
  (k_frameState v10 t0).bind fun r372 =>
  if r372 = v11 then
    (k_frameValue v10 t0).bind fun r386 =>
    (k_frameValue v10 t1).bind fun r393 =>
    if r386 = r393 then
      (k_mapCount v10 t0).bind fun r405 =>
      (k_mapCount v10 t1).bind fun r412 =>
      if r405 = r412 then
        law_423 k322 BIG v1 v2 v6 v8 v9 v10 (0 : Int32) q t0 t1
      else
        some ((0 : Int32), t0, t1)
    else
      some ((0 : Int32), t0, t1)
  else
    some ((0 : Int32), t0, t1)
def law_356 (k322 : Int32 → Int32 → Int32 → Int32 → Int32 → Int32 → List Int32 → S → S → Option (Int32 × S × S)) (v1 : Int32) (v2 : Int32) (v6 : Int32) (v8 : Int32) (v9 : Int32) (v10 : Int32) (v11 : Int32) (q : List Int32) (t0 : S) (t1 : S) : Option (Int32 × S × S) :=
  if v11 = (2 : Int32) then
    law_368 k322 v1 v2 v6 v8 v9 v10 v11 q t0 t1
  else
    if v11 = (3 : Int32) then
      law_368 k322 v1 v2 v6 v8 v9 v10 v11 q t0 t1
    else
      k322 v1 v2 v6 v8 v9 (v10 + (1 : Int32)) q t0 t1
def law_322  : Nat → Int32 → Int32 → Int32 → Int32 → Int32 → Int32 → List Int32 → S → S → Option (Int32 × S × S)
  | 0, _, _, _, _, _, _, _, _, _ => none
  | n + 1, v1, v2, v6, v8, v9, v10, q, t0, t1 =>
    if v10 < v1 then
      (k_frameState v10 t1).bind fun r332 =>
      if r332 = (1 : Int32) then
        (k_frameState v10 t0).bind fun r347 =>
        law_356 (fun v1 v2 v6 v8 v9 v10 q t0 t1 => law_322 n v1 v2 v6 v8 v9 v10 q t0 t1) v1 v2 v6 v8 (if r347 = 0 then v9 + (1 : Int32) else v9) v10 r332 q t0 t1
      else
        law_356 (fun v1 v2 v6 v8 v9 v10 q t0 t1 => law_322 n v1 v2 v6 v8 v9 v10 q t0 t1) v1 v2 v6 v8 v9 v10 r332 q t0 t1
    else
      law_497 v2 v6 v8 v9 q t0 t1
def law_316  (v1 : Int32) (v2 : Int32) (v6 : Int32) (v8 : Int32) (q : List Int32) (t0 : S) (t1 : S) : Option (Int32 × S × S) :=
  law_322 BIG v1 v2 v6 v8 (0 : Int32) (0 : Int32) q t0 t1
def law_299 (k219 : Int32 → Int32 → Int32 → Int32 → Int32 → List Int32 → S → S → Option (Int32 × S × S)) (v1 : Int32) (v2 : Int32) (v6 : Int32) (v8 : Int32) (v9 : Int32) (v12 : Int32) (p0 : Int32) (q : List Int32) (t0 : S) (t1 : S) : Option (Int32 × S × S) :=
  if v12 = p0 then
    k219 v1 v2 v6 v8 (v9 + (1 : Int32)) q t0 t1
  else
    some ((0 : Int32), t0, t1)
def law_279 (k219 : Int32 → Int32 → Int32 → Int32 → Int32 → List Int32 → S → S → Option (Int32 × S × S)) (v1 : Int32) (v2 : Int32) (v6 : Int32) (v8 : Int32) (v9 : Int32) (v10 : Int32) (v11 : Int32) (p0 : Int32) (q : List Int32) (t0 : S) (t1 : S) : Option (Int32 × S × S) :=
  (k_frameOf v10 v11 t1).bind fun r287 =>
  law_299 k219 v1 v2 v6 v8 v9 p0 (if r287 = (-1 : Int32) then (0 : Int32) else (1 : Int32)) q t0 t1
def law_219  : Nat → Int32 → Int32 → Int32 → Int32 → Int32 → List Int32 → S → S → Option (Int32 × S × S)
  | 0, _, _, _, _, _, _, _, _ => none
  | n + 1, v1, v2, v6, v8, v9, q, t0, t1 =>
    if v9 < v8 then
      if v2 = 0 then none else
      if v2 = 0 then none else
      (k_read (v9 / v2) (v9 % v2) t0).bind fun r244 =>
      (k_read (v9 / v2) (v9 % v2) t1).bind fun r253 =>
      if r244 = r253 then
        (k_frameOf (v9 / v2) (v9 % v2) t0).bind fun r267 =>
        law_279 (fun v1 v2 v6 v8 v9 q t0 t1 => law_219 n v1 v2 v6 v8 v9 q t0 t1) v1 v2 v6 v8 v9 (v9 / v2) (v9 % v2) (if r267 = (-1 : Int32) then (0 : Int32) else (1 : Int32)) q t0 t1
      else
        some ((0 : Int32), t0, t1)
    else
      law_316 v1 v2 v6 v8 q t0 t1
def law_180  (v1 : Int32) (v2 : Int32) (v6 : Int32) (p0 : Int32) (q : List Int32) (t0 : S) (t1 : S) : Option (Int32 × S × S) :=
  if v6 < 0 then
    some ((0 : Int32), t0, t1)
  else
    if p0 < v6 then
      some ((0 : Int32), t0, t1)
    else
      if (k_freeCount t0) = (k_freeCount t1) then
        law_219 BIG v1 v2 v6 ((4 : Int32) * v2) (0 : Int32) q t0 t1
      else
        some ((0 : Int32), t0, t1)
def law_152  (v1 : Int32) (v2 : Int32) (v3 : Int32) (q : List Int32) (t0 : S) (t1 : S) : Option (Int32 × S × S) :=
  (k_compact v3 t0).bind fun r155 =>
  law_180 v1 v2 r155.1 (if v3 < 0 then (0 : Int32) else if (64 : Int32) < v3 then (64 : Int32) else v3) q r155.2 t1
def law_66  : Nat → Int32 → Int32 → Int32 → Int32 → List Int32 → S → S → Option (Int32 × S × S)
  | 0, _, _, _, _, _, _, _ => none
  | n + 1, v1, v2, v3, v6, q, t0, t1 =>
    if v6 < q.length.toInt32 then
      (h_cell v6 q).bind fun r76 =>
      (h_mod r76 (8 : Int32)).bind fun r81 =>
      (h_cell (v6 + (1 : Int32)) q).bind fun r91 =>
      (h_cell (v6 + (2 : Int32)) q).bind fun r101 =>
      (h_cell (v6 + (3 : Int32)) q).bind fun r111 =>
      (h_apply r81 r91 r101 r111 v2 v1 t0).bind fun r128 =>
      (h_apply r81 r91 r101 r111 v2 v1 t1).bind fun r143 =>
      law_66 n v1 v2 v3 (v6 + (4 : Int32)) q r128 r143
    else
      law_152 v1 v2 v3 q t0 t1
def law   (q : List Int32) : Option (Int32 × S × S) :=
  (h_cell (0 : Int32) q).bind fun r4 =>
  (h_mod r4 (57 : Int32)).bind fun r9 =>
  (h_cell (1 : Int32) q).bind fun r17 =>
  (h_mod r17 (13 : Int32)).bind fun r22 =>
  (h_cell (2 : Int32) q).bind fun r29 =>
  (h_mod r29 (80 : Int32)).bind fun r34 =>
  (k_init ((8 : Int32) + r9) ((4 : Int32) + r22)).bind fun r47 =>
  (k_init ((8 : Int32) + r9) ((4 : Int32) + r22)).bind fun r58 =>
  law_66 BIG ((8 : Int32) + r9) ((4 : Int32) + r22) (r34 - (8 : Int32)) (3 : Int32) q r47 r58
set_option maxRecDepth 65536 in
set_option maxHeartbeats 4000000 in
theorem k_clampInt_ok  {s : S} : ∀ (v1 : Int32) (v2 : Int32) (v3 : Int32)   (o : Int32), k_clampInt v1 v2 v3 = o → Go PP m2 0 [.val (.ref 1), .val (.int v1), .val (.int v2), .val (.int v3)] [] (none, [(8, s)]) (some (.int o), (none, [(8, s)])) := by
  intro v1 v2 v3 o hf
  unfold k_clampInt at hf
  refine go_iloadN (pc := 0) d2_0 rfl (go_iloadN (pc := 1) d2_1 rfl ?_)
  by_cases h1 : v1 < v2
  · replace hf := (if_pos h1).symm.trans hf
    refine go_icN (pc := 2) d2_2 (XT.ii_ge_f h1) ?_
    refine go_iloadN (pc := 5) d2_5 rfl ?_
    cases hf
    exact go_iret (pc := 6) rfl d2_6
  · replace hf := (if_neg h1).symm.trans hf
    refine go_icY (pc := 2) (pc' := 7) d2_2 (XT.ii_ge_t h1) j_2_5 ?_
    refine go_iloadN (pc := 7) d2_7 rfl (go_iloadN (pc := 8) d2_8 rfl ?_)
    by_cases h2 : v3 < v1
    · replace hf := (if_pos h2).symm.trans hf
      refine go_icN (pc := 9) d2_9 (XT.ii_le_f h2) ?_
      refine go_iloadN (pc := 12) d2_12 rfl ?_
      cases hf
      exact go_iret (pc := 13) rfl d2_13
    · replace hf := (if_neg h2).symm.trans hf
      refine go_icY (pc := 9) (pc' := 14) d2_9 (XT.ii_le_t h2) j_9_5 ?_
      refine go_iloadN (pc := 14) d2_14 rfl ?_
      cases hf
      exact go_iret (pc := 15) rfl d2_15
theorem c_k_clampInt (v1 : Int32) (v2 : Int32) (v3 : Int32) (s : S) : Call PP m2 [.ref 1, .int v1, .int v2, .int v3] (none, [(8, s)]) (some (.int (k_clampInt v1 v2 v3)), (none, [(8, s)])) := call_of_go pl_0 rfl (fun h => nomatch h) (k_clampInt_ok v1 v2 v3   _ rfl)
set_option maxRecDepth 65536 in
set_option maxHeartbeats 4000000 in
theorem k_lowMask_ok  {s : S} : ∀ (v1 : Int32)   (o : Int64), k_lowMask v1 = o → Go PP m3 0 [.val (.ref 1), .val (.int v1)] [] (none, [(8, s)]) (some (.long o), (none, [(8, s)])) := by
  intro v1 o hf
  unfold k_lowMask at hf
  refine go_iloadN (pc := 0) d3_0 rfl ?_
  by_cases h1 : 0 < v1
  · replace hf := (if_pos h1).symm.trans hf
    refine go_ifY (pc := 1) (pc' := 6) d3_1 (XT.i0_gt_t h1) j_1_5 ?_
    refine go_iloadN (pc := 6) d3_6 rfl (go_bipush (pc := 7) d3_7 cb_64 ?_)
    by_cases h2 : v1 < (64 : Int32)
    · replace hf := (if_pos h2).symm.trans hf
      refine go_icY (pc := 9) (pc' := 16) d3_9 (XT.ii_lt_t h2) j_9_7 ?_
      refine go_lconst (pc := 16) d3_16 cl_1 (go_iloadN (pc := 17) d3_17 rfl (go_lshl (pc := 18) d3_18 (go_lconst (pc := 19) d3_19 cl_1 (go_lsub (pc := 20) d3_20 ?_))))
      cases hf
      exact go_lret (pc := 21) rfl d3_21
    · replace hf := (if_neg h2).symm.trans hf
      refine go_icN (pc := 9) d3_9 (XT.ii_lt_f h2) ?_
      refine go_ldc2 (pc := 12) (u := (-1 : Int64)) d3_12 (List.mem_of_getElem? (i := 102) rfl) ?_
      cases hf
      exact go_lret (pc := 15) rfl d3_15
  · replace hf := (if_neg h1).symm.trans hf
    refine go_ifN (pc := 1) d3_1 (XT.i0_gt_f h1) ?_
    refine go_lconst (pc := 4) d3_4 cl_0 ?_
    cases hf
    exact go_lret (pc := 5) rfl d3_5
theorem c_k_lowMask (v1 : Int32) (s : S) : Call PP m3 [.ref 1, .int v1] (none, [(8, s)]) (some (.long (k_lowMask v1)), (none, [(8, s)])) := call_of_go pl_0 rfl (fun h => nomatch h) (k_lowMask_ok v1   _ rfl)
set_option maxRecDepth 65536 in
set_option maxHeartbeats 4000000 in
theorem k_resetAll_63_ok  : ∀  (s : S) (x1 : Slot) (hx1 : k1 x1) (o : S), k_resetAll_63 s = some o → Go PP m4 63 [.val (.ref 1), x1] [] (none, [(8, s)]) (none, (none, [(8, o)])) := by
  intro s x1 hx1 o hf
  unfold k_resetAll_63 at hf
  refine go_aloadN (pc := 63) d4_63 rfl (go_aloadN (pc := 64) d4_64 rfl (go_aloadN (pc := 65) d4_65 rfl (go_getI (pc := 66) fs_40 hm_4 d4_66 ?_)))
  refine go_priv (pc := 69) (i := 0) (as := [.int (gI s 0)]) (rest := [.ref 1]) (w' := (none, [(8, s)])) lk_0_129 pd_3 rfl oid_0 rfl rfl rfl rfl rfl rfl ⟨rfl, rfl, rfl, rfl, rfl⟩ d4_69 (c_k_lowMask (gI s 0) s) ?_
  refine go_putJ (pc := 72) fs_54 hm_4 (wr_2 _) hn_4 d4_72 (go_aloadN (pc := 75) d4_75 rfl (go_lconst (pc := 76) d4_76 cl_0 (go_putJ (pc := 77) fs_132 hm_4 (wr_3 _) hn_4 d4_77 (go_aloadN (pc := 80) d4_80 rfl (go_lconst (pc := 81) d4_81 cl_0 (go_putJ (pc := 82) fs_135 hm_4 (wr_4 _) hn_4 d4_82 (go_aloadN (pc := 85) d4_85 rfl ?_)))))))
  refine go_lconst (pc := 86) d4_86 cl_0 (go_putJ (pc := 87) fs_138 hm_4 (wr_5 _) hn_4 d4_87 (go_aloadN (pc := 90) d4_90 rfl (go_iconst (pc := 91) d4_91 ci_1 (go_putZ (pc := 92) fs_141 hm_4 (wr_6 _) hn_4 (by decide) d4_92 ?_))))
  cases hf
  exact go_ret (pc := 95) rfl d4_95
set_option maxRecDepth 65536 in
set_option maxHeartbeats 4000000 in
theorem k_resetAll_2_ok  : ∀ (n : Nat) (v1 : Int32) (s : S)  (o : S), k_resetAll_2 n v1 s = some o → Go PP m4 2 [.val (.ref 1), .val (.int v1)] [] (none, [(8, s)]) (none, (none, [(8, o)])) := by
  intro n
  induction n with
  | zero => intro v1 s o hf; exact nomatch hf
  | succ n ih =>
    intro v1 s o hf
    unfold k_resetAll_2 at hf
    refine go_iloadN (pc := 2) d4_2 rfl (go_bipush (pc := 3) d4_3 cb_64 ?_)
    by_cases h1 : v1 < (64 : Int32)
    · replace hf := (if_pos h1).symm.trans hf
      refine go_icN (pc := 5) d4_5 (XT.ii_ge_f h1) ?_
      refine go_aloadN (pc := 8) d4_8 rfl (go_getA (pc := 9) fa_7 hm_4 d4_9 rfl (go_iloadN (pc := 12) d4_12 rfl (go_iconst (pc := 13) d4_13 ci_0 ?_)))
      obtain ⟨a14, e2, hf⟩ := Option.bind_eq_some_iff.mp hf
      refine go_bastore (pc := 14) (q := 0) ar_0 (by decide) rfl hn_4 rfl e2 d4_14 ?_
      refine go_aloadN (pc := 15) d4_15 rfl (go_getA (pc := 16) fa_13 hm_4 d4_16 rfl (go_iloadN (pc := 19) d4_19 rfl (go_iconst (pc := 20) d4_20 ci_0 ?_)))
      obtain ⟨a21, e3, hf⟩ := Option.bind_eq_some_iff.mp hf
      refine go_iastore (pc := 21) (q := 1) ar_1 rfl hn_4 e3 d4_21 ?_
      refine go_aloadN (pc := 22) d4_22 rfl (go_getA (pc := 23) fa_17 hm_4 d4_23 rfl (go_iloadN (pc := 26) d4_26 rfl (go_iconst (pc := 27) d4_27 ci_0 ?_)))
      obtain ⟨a28, e4, hf⟩ := Option.bind_eq_some_iff.mp hf
      refine go_iastore (pc := 28) (q := 2) ar_2 rfl hn_4 e4 d4_28 ?_
      refine go_aloadN (pc := 29) d4_29 rfl (go_getA (pc := 30) fa_20 hm_4 d4_30 rfl (go_iloadN (pc := 33) d4_33 rfl (go_iconst (pc := 34) d4_34 ci_m1 ?_)))
      obtain ⟨a35, e5, hf⟩ := Option.bind_eq_some_iff.mp hf
      refine go_iastore (pc := 35) (q := 3) ar_3 rfl hn_4 e5 d4_35 ?_
      refine go_aloadN (pc := 36) d4_36 rfl (go_getA (pc := 37) fa_23 hm_4 d4_37 rfl (go_iloadN (pc := 40) d4_40 rfl (go_iconst (pc := 41) d4_41 ci_m1 ?_)))
      obtain ⟨a42, e6, hf⟩ := Option.bind_eq_some_iff.mp hf
      refine go_iastore (pc := 42) (q := 4) ar_4 rfl hn_4 e6 d4_42 ?_
      refine go_aloadN (pc := 43) d4_43 rfl (go_getA (pc := 44) fa_26 hm_4 d4_44 rfl (go_iloadN (pc := 47) d4_47 rfl (go_iconst (pc := 48) d4_48 ci_m1 ?_)))
      obtain ⟨a49, e7, hf⟩ := Option.bind_eq_some_iff.mp hf
      refine go_iastore (pc := 49) (q := 5) ar_5 rfl hn_4 e7 d4_49 ?_
      refine go_aloadN (pc := 50) d4_50 rfl (go_getA (pc := 51) fa_29 hm_4 d4_51 rfl (go_iloadN (pc := 54) d4_54 rfl (go_iconst (pc := 55) d4_55 ci_m1 ?_)))
      obtain ⟨a56, e8, hf⟩ := Option.bind_eq_some_iff.mp hf
      refine go_iastore (pc := 56) (q := 6) ar_6 rfl hn_4 e8 d4_56 ?_
      refine go_iinc (pc := 57) (L' := [.val (.ref 1), .val (.int (v1 + (1 : Int32)))]) d4_57 rfl ci_1 rfl (go_goto (pc := 60) (pc' := 2) d4_60 j_60_m58 ?_)
      exact ih (v1 + (1 : Int32)) (sA (sA (sA (sA (sA (sA (sA s 0 a14) 1 a21) 2 a28) 3 a35) 4 a42) 5 a49) 6 a56) _ hf
    · replace hf := (if_neg h1).symm.trans hf
      refine go_icY (pc := 5) (pc' := 63) d4_5 (XT.ii_ge_t h1) j_5_58 ?_
      exact k_resetAll_63_ok s (.val (.int v1)) (Or.inr ⟨_, rfl, rfl⟩) _ hf
set_option maxRecDepth 65536 in
set_option maxHeartbeats 4000000 in
theorem k_resetAll_ok  : ∀  (s : S)  (o : S), k_resetAll s = some o → Go PP m4 0 [.val (.ref 1), .unset] [] (none, [(8, s)]) (none, (none, [(8, o)])) := by
  intro s o hf
  unfold k_resetAll at hf
  refine go_iconst (pc := 0) d4_0 ci_0 (go_istoreN (pc := 1) (L' := [.val (.ref 1), .val (.int (0 : Int32))]) d4_1 rfl ?_)
  exact k_resetAll_2_ok BIG (0 : Int32) s _ hf
theorem c_k_resetAll (s : S) (o : S) (hf : k_resetAll s = some o) : Call PP m4 [.ref 1] (none, [(8, s)]) (none, (none, [(8, o)])) := call_of_go pl_0 rfl (fun _ => rfl) (k_resetAll_ok s   _ hf)
set_option maxRecDepth 65536 in
set_option maxHeartbeats 4000000 in
theorem k_init_ok  : ∀ (v1 : Int32) (v2 : Int32)   (o : S), k_init v1 v2 = some o → Go PP m5 0 [.val (.ref 1), .val (.int v1), .val (.int v2)] [] (none, [(0, s0)]) (none, (none, [(8, o)])) := by
  intro v1 v2 o hf
  unfold k_init at hf
  refine go_aloadN (pc := 0) d5_0 rfl ?_
  refine go_objinit (pc := 1) (rest := []) (a := 0) (List.mem_of_getElem? (i := 13) rfl) (List.mem_of_getElem? (i := 14) rfl) (List.mem_of_getElem? (i := 15) rfl) rfl rfl d5_1 ?_
  refine go_aloadN (pc := 4) d5_4 rfl (go_bipush (pc := 5) d5_5 cb_64 ?_)
  refine go_newI (pc := 7) (ty := .byte) rfl (by decide) ar_0 (List.mem_of_getElem? (i := 16) rfl) (List.mem_of_getElem? (i := 17) rfl) hm_5 (Or.inr ⟨List.mem_of_getElem? (i := 18) rfl, rfl⟩) rfl hn_5 (by decide) rfl rfl rfl rfl d5_7 d5_9 ?_
  refine go_aloadN (pc := 12) d5_12 rfl (go_bipush (pc := 13) d5_13 cb_64 ?_)
  refine go_newI (pc := 15) (ty := .int) rfl (by decide) ar_1 (List.mem_of_getElem? (i := 19) rfl) (List.mem_of_getElem? (i := 20) rfl) hm_5 (Or.inr ⟨List.mem_of_getElem? (i := 21) rfl, rfl⟩) rfl hn_5 (by decide) rfl rfl rfl rfl d5_15 d5_17 ?_
  refine go_aloadN (pc := 20) d5_20 rfl (go_bipush (pc := 21) d5_21 cb_64 ?_)
  refine go_newI (pc := 23) (ty := .int) rfl (by decide) ar_2 (List.mem_of_getElem? (i := 19) rfl) (List.mem_of_getElem? (i := 22) rfl) hm_5 (Or.inr ⟨List.mem_of_getElem? (i := 23) rfl, rfl⟩) rfl hn_5 (by decide) rfl rfl rfl rfl d5_23 d5_25 ?_
  refine go_aloadN (pc := 28) d5_28 rfl (go_bipush (pc := 29) d5_29 cb_64 ?_)
  refine go_newI (pc := 31) (ty := .int) rfl (by decide) ar_3 (List.mem_of_getElem? (i := 19) rfl) (List.mem_of_getElem? (i := 24) rfl) hm_5 (Or.inr ⟨List.mem_of_getElem? (i := 25) rfl, rfl⟩) rfl hn_5 (by decide) rfl rfl rfl rfl d5_31 d5_33 ?_
  refine go_aloadN (pc := 36) d5_36 rfl (go_bipush (pc := 37) d5_37 cb_64 ?_)
  refine go_newI (pc := 39) (ty := .int) rfl (by decide) ar_4 (List.mem_of_getElem? (i := 19) rfl) (List.mem_of_getElem? (i := 26) rfl) hm_5 (Or.inr ⟨List.mem_of_getElem? (i := 27) rfl, rfl⟩) rfl hn_5 (by decide) rfl rfl rfl rfl d5_39 d5_41 ?_
  refine go_aloadN (pc := 44) d5_44 rfl (go_bipush (pc := 45) d5_45 cb_64 ?_)
  refine go_newI (pc := 47) (ty := .int) rfl (by decide) ar_5 (List.mem_of_getElem? (i := 19) rfl) (List.mem_of_getElem? (i := 28) rfl) hm_5 (Or.inr ⟨List.mem_of_getElem? (i := 29) rfl, rfl⟩) rfl hn_5 (by decide) rfl rfl rfl rfl d5_47 d5_49 ?_
  refine go_aloadN (pc := 52) d5_52 rfl (go_bipush (pc := 53) d5_53 cb_64 ?_)
  refine go_newI (pc := 55) (ty := .int) rfl (by decide) ar_6 (List.mem_of_getElem? (i := 19) rfl) (List.mem_of_getElem? (i := 30) rfl) hm_5 (Or.inr ⟨List.mem_of_getElem? (i := 31) rfl, rfl⟩) rfl hn_5 (by decide) rfl rfl rfl rfl d5_55 d5_57 ?_
  refine go_aloadN (pc := 60) d5_60 rfl (go_bipush (pc := 61) d5_61 cb_7 ?_)
  refine go_newJ (pc := 63) ar_7 (List.mem_of_getElem? (i := 32) rfl) (List.mem_of_getElem? (i := 33) rfl) hm_5 (Or.inr ⟨List.mem_of_getElem? (i := 34) rfl, rfl⟩) rfl hn_5 (by decide) rfl rfl rfl rfl d5_63 d5_65 ?_
  refine go_aloadN (pc := 68) d5_68 rfl (go_aloadN (pc := 69) d5_69 rfl (go_iloadN (pc := 70) d5_70 rfl (go_bipush (pc := 71) d5_71 cb_8 (go_bipush (pc := 73) d5_73 cb_64 ?_))))
  refine go_priv (pc := 75) (i := 0) (as := [.int v1, .int (8 : Int32), .int (64 : Int32)]) (rest := [.ref 1]) (w' := (none, [(8, sB (sA (sA (sA (sA (sA (sA (sA s0 0 (rep 64 0)) 1 (rep 64 0)) 2 (rep 64 0)) 3 (rep 64 0)) 4 (rep 64 0)) 5 (rep 64 0)) 6 (rep 64 0)) 7 (rep 7 0))])) lk_0_36 pd_2 rfl oid_0 rfl rfl rfl rfl rfl rfl ⟨rfl, rfl, rfl, rfl, rfl⟩ d5_75 (c_k_clampInt v1 (8 : Int32) (64 : Int32) (sB (sA (sA (sA (sA (sA (sA (sA s0 0 (rep 64 0)) 1 (rep 64 0)) 2 (rep 64 0)) 3 (rep 64 0)) 4 (rep 64 0)) 5 (rep 64 0)) 6 (rep 64 0)) 7 (rep 7 0))) ?_
  refine go_putI (pc := 78) fs_40 hm_5 (wr_0 _) hn_5 d5_78 (go_aloadN (pc := 81) d5_81 rfl (go_aloadN (pc := 82) d5_82 rfl (go_iloadN (pc := 83) d5_83 rfl (go_iconst (pc := 84) d5_84 ci_4 (go_bipush (pc := 85) d5_85 cb_16 ?_)))))
  refine go_priv (pc := 87) (i := 0) (as := [.int v2, .int (4 : Int32), .int (16 : Int32)]) (rest := [.ref 1]) (w' := (none, [(8, sI (sB (sA (sA (sA (sA (sA (sA (sA s0 0 (rep 64 0)) 1 (rep 64 0)) 2 (rep 64 0)) 3 (rep 64 0)) 4 (rep 64 0)) 5 (rep 64 0)) 6 (rep 64 0)) 7 (rep 7 0)) 0 (k_clampInt v1 (8 : Int32) (64 : Int32)))])) lk_0_36 pd_2 rfl oid_0 rfl rfl rfl rfl rfl rfl ⟨rfl, rfl, rfl, rfl, rfl⟩ d5_87 (c_k_clampInt v2 (4 : Int32) (16 : Int32) (sI (sB (sA (sA (sA (sA (sA (sA (sA s0 0 (rep 64 0)) 1 (rep 64 0)) 2 (rep 64 0)) 3 (rep 64 0)) 4 (rep 64 0)) 5 (rep 64 0)) 6 (rep 64 0)) 7 (rep 7 0)) 0 (k_clampInt v1 (8 : Int32) (64 : Int32)))) ?_
  refine go_putI (pc := 90) fs_44 hm_5 (wr_1 _) hn_5 d5_90 (go_aloadN (pc := 93) d5_93 rfl ?_)
  obtain ⟨r94, e9, hf⟩ := Option.bind_eq_some_iff.mp hf
  refine go_priv (pc := 94) (i := 0) (as := []) (rest := []) (w' := (none, [(8, r94)])) lk_0_47 pd_4 rfl oid_0 rfl rfl rfl rfl rfl rfl ⟨rfl, rfl, rfl, rfl, rfl⟩ d5_94 (c_k_resetAll (sI (sI (sB (sA (sA (sA (sA (sA (sA (sA s0 0 (rep 64 0)) 1 (rep 64 0)) 2 (rep 64 0)) 3 (rep 64 0)) 4 (rep 64 0)) 5 (rep 64 0)) 6 (rep 64 0)) 7 (rep 7 0)) 0 (k_clampInt v1 (8 : Int32) (64 : Int32))) 1 (k_clampInt v2 (4 : Int32) (16 : Int32))) _ e9) ?_
  cases hf
  exact go_ret (pc := 97) rfl d5_97
theorem c_k_init (v1 : Int32) (v2 : Int32) (o : S) (hf : k_init v1 v2 = some o) : Call PP m5 [.ref 1, .int v1, .int v2] (none, [(0, s0)]) (none, (none, [(8, o)])) := call_of_go pl_0 rfl (fun _ => rfl) (k_init_ok v1 v2   _ hf)
set_option maxRecDepth 65536 in
set_option maxHeartbeats 4000000 in
theorem k_pageInRange_ok  : ∀ (v1 : Int32) (v2 : Int32) (s : S)  (o : Int32), k_pageInRange v1 v2 s = o → Go PP m6 0 [.val (.ref 1), .val (.int v1), .val (.int v2)] [] (none, [(8, s)]) (some (.int o), (none, [(8, s)])) := by
  intro v1 v2 s o hf
  unfold k_pageInRange at hf
  refine go_iloadN (pc := 0) d6_0 rfl ?_
  by_cases h1 : v1 < 0
  · replace hf := (if_pos h1).symm.trans hf
    refine go_ifY (pc := 1) (pc' := 9) d6_1 (XT.i0_lt_t h1) j_1_8 ?_
    refine go_iconst (pc := 9) d6_9 ci_0 ?_
    cases hf
    exact go_zret (pc := 10) rfl d6_10 (show (0 : Int32) = nar .boolean (0 : Int32) by decide)
  · replace hf := (if_neg h1).symm.trans hf
    refine go_ifN (pc := 1) d6_1 (XT.i0_lt_f h1) ?_
    refine go_iloadN (pc := 4) d6_4 rfl (go_iconst (pc := 5) d6_5 ci_4 ?_)
    by_cases h2 : v1 < (4 : Int32)
    · replace hf := (if_pos h2).symm.trans hf
      refine go_icY (pc := 6) (pc' := 11) d6_6 (XT.ii_lt_t h2) j_6_5 ?_
      refine go_iloadN (pc := 11) d6_11 rfl ?_
      by_cases h3 : v2 < 0
      · replace hf := (if_pos h3).symm.trans hf
        refine go_ifY (pc := 12) (pc' := 27) d6_12 (XT.i0_lt_t h3) j_12_15 ?_
        refine go_iconst (pc := 27) d6_27 ci_0 ?_
        cases hf
        exact go_zret (pc := 28) rfl d6_28 (show (0 : Int32) = nar .boolean (0 : Int32) by decide)
      · replace hf := (if_neg h3).symm.trans hf
        refine go_ifN (pc := 12) d6_12 (XT.i0_lt_f h3) ?_
        refine go_iloadN (pc := 15) d6_15 rfl (go_aloadN (pc := 16) d6_16 rfl (go_getI (pc := 17) fs_44 hm_6 d6_17 ?_))
        by_cases h4 : v2 < (gI s 1)
        · replace hf := (if_pos h4).symm.trans hf
          refine go_icN (pc := 20) d6_20 (XT.ii_ge_f h4) ?_
          refine go_iconst (pc := 23) d6_23 ci_1 (go_goto (pc := 24) (pc' := 28) d6_24 j_24_4 ?_)
          cases hf
          exact go_zret (pc := 28) rfl d6_28 (show (1 : Int32) = nar .boolean (1 : Int32) by decide)
        · replace hf := (if_neg h4).symm.trans hf
          refine go_icY (pc := 20) (pc' := 27) d6_20 (XT.ii_ge_t h4) j_20_7 ?_
          refine go_iconst (pc := 27) d6_27 ci_0 ?_
          cases hf
          exact go_zret (pc := 28) rfl d6_28 (show (0 : Int32) = nar .boolean (0 : Int32) by decide)
    · replace hf := (if_neg h2).symm.trans hf
      refine go_icN (pc := 6) d6_6 (XT.ii_lt_f h2) ?_
      refine go_iconst (pc := 9) d6_9 ci_0 ?_
      cases hf
      exact go_zret (pc := 10) rfl d6_10 (show (0 : Int32) = nar .boolean (0 : Int32) by decide)
theorem c_k_pageInRange (v1 : Int32) (v2 : Int32) (s : S) : Call PP m6 [.ref 1, .int v1, .int v2] (none, [(8, s)]) (some (.int (k_pageInRange v1 v2 s)), (none, [(8, s)])) := call_of_go pl_0 rfl (fun h => nomatch h) (k_pageInRange_ok v1 v2 s   _ rfl)
set_option maxRecDepth 65536 in
set_option maxHeartbeats 4000000 in
theorem k_slotOf_ok  {s : S} : ∀ (v1 : Int32) (v2 : Int32)   (o : Int32), k_slotOf v1 v2 = o → Go PP m7 0 [.val (.ref 1), .val (.int v1), .val (.int v2)] [] (none, [(8, s)]) (some (.int o), (none, [(8, s)])) := by
  intro v1 v2 o hf
  unfold k_slotOf at hf
  refine go_iloadN (pc := 0) d7_0 rfl (go_bipush (pc := 1) d7_1 cb_16 (go_imul (pc := 3) d7_3 (go_iloadN (pc := 4) d7_4 rfl (go_iadd (pc := 5) d7_5 ?_))))
  cases hf
  exact go_iret (pc := 6) rfl d7_6
theorem c_k_slotOf (v1 : Int32) (v2 : Int32) (s : S) : Call PP m7 [.ref 1, .int v1, .int v2] (none, [(8, s)]) (some (.int (k_slotOf v1 v2)), (none, [(8, s)])) := call_of_go pl_0 rfl (fun h => nomatch h) (k_slotOf_ok v1 v2   _ rfl)
set_option maxRecDepth 65536 in
set_option maxHeartbeats 4000000 in
theorem k_checkTarget_ok  : ∀ (v1 : Int32) (v2 : Int32) (s : S)  (o : Int32), k_checkTarget v1 v2 s = some o → Go PP m8 0 [.val (.ref 1), .val (.int v1), .val (.int v2), .unset] [] (none, [(8, s)]) (some (.int o), (none, [(8, s)])) := by
  intro v1 v2 s o hf
  unfold k_checkTarget at hf
  refine go_aloadN (pc := 0) d8_0 rfl (go_iloadN (pc := 1) d8_1 rfl (go_iloadN (pc := 2) d8_2 rfl ?_))
  refine go_priv (pc := 3) (i := 0) (as := [.int v1, .int v2]) (rest := []) (w' := (none, [(8, s)])) lk_0_76 pd_6 rfl oid_0 rfl rfl rfl rfl rfl rfl ⟨rfl, rfl, rfl, rfl, rfl⟩ d8_3 (c_k_pageInRange v1 v2 s) ?_
  by_cases h1 : (k_pageInRange v1 v2 s) = 0
  · replace hf := (if_pos h1).symm.trans hf
    refine go_ifN (pc := 6) d8_6 (XT.i0_ne_f h1) ?_
    refine go_iconst (pc := 9) d8_9 ci_m1 ?_
    cases hf
    exact go_iret (pc := 10) rfl d8_10
  · replace hf := (if_neg h1).symm.trans hf
    refine go_ifY (pc := 6) (pc' := 11) d8_6 (XT.i0_ne_t h1) j_6_5 ?_
    refine go_aloadN (pc := 11) d8_11 rfl (go_iloadN (pc := 12) d8_12 rfl (go_iloadN (pc := 13) d8_13 rfl ?_))
    refine go_priv (pc := 14) (i := 0) (as := [.int v1, .int v2]) (rest := []) (w' := (none, [(8, s)])) lk_0_66 pd_7 rfl oid_0 rfl rfl rfl rfl rfl rfl ⟨rfl, rfl, rfl, rfl, rfl⟩ d8_14 (c_k_slotOf v1 v2 s) ?_
    refine go_istoreN (pc := 17) (L' := [.val (.ref 1), .val (.int v1), .val (.int v2), .val (.int (k_slotOf v1 v2))]) d8_17 rfl (go_aloadN (pc := 18) d8_18 rfl (go_getA (pc := 19) fa_20 hm_8 d8_19 rfl (go_iloadN (pc := 22) d8_22 rfl ?_)))
    obtain ⟨a23, e2, hf⟩ := Option.bind_eq_some_iff.mp hf
    refine go_iaload (pc := 23) (q := 3) ar_3 rfl e2 d8_23 ?_
    by_cases h3 : a23 < 0
    · replace hf := (if_pos h3).symm.trans hf
      refine go_ifY (pc := 24) (pc' := 30) d8_24 (XT.i0_lt_t h3) j_24_6 ?_
      refine go_iconst (pc := 30) d8_30 ci_0 ?_
      cases hf
      exact go_iret (pc := 31) rfl d8_31
    · replace hf := (if_neg h3).symm.trans hf
      refine go_ifN (pc := 24) d8_24 (XT.i0_lt_f h3) ?_
      refine go_bipush (pc := 27) d8_27 cb_m2 ?_
      cases hf
      exact go_iret (pc := 29) rfl d8_29
theorem c_k_checkTarget (v1 : Int32) (v2 : Int32) (s : S) (o : Int32) (hf : k_checkTarget v1 v2 s = some o) : Call PP m8 [.ref 1, .int v1, .int v2] (none, [(8, s)]) (some (.int o), (none, [(8, s)])) := call_of_go pl_0 rfl (fun h => nomatch h) (k_checkTarget_ok v1 v2 s   _ hf)
set_option maxRecDepth 65536 in
set_option maxHeartbeats 4000000 in
theorem k_lowestBit_116_ok  {s : S} : ∀ (v3 : Int32) (v4 : Int64)  (x1 : Slot) (x2 : Slot) (hx1 : k2 x1 x2) (o : Int32), k_lowestBit_116 v3 v4 = o → Go PP m9 116 [.val (.ref 1), x1, x2, .val (.int v3), .val (.long v4), .second] [] (none, [(8, s)]) (some (.int o), (none, [(8, s)])) := by
  intro v3 v4 x1 x2 hx1 o hf
  unfold k_lowestBit_116 at hf
  refine go_lload (pc := 116) d9_116 rfl (go_lconst (pc := 118) d9_118 cl_1 (go_land (pc := 119) d9_119 (go_lconst (pc := 120) d9_120 cl_0 (go_lcmp (pc := 121) d9_121 ?_))))
  by_cases h2 : (v4 &&& (1 : Int64)) = (0 : Int64)
  · replace hf := (if_pos h2).symm.trans hf
    refine go_ifN (pc := 122) d9_122 (XT.ll_ne_f h2) ?_
    refine go_iinc (pc := 125) (L' := [.val (.ref 1), x1, x2, .val (.int (v3 + (1 : Int32))), .val (.long v4), .second]) d9_125 rfl ci_1 rfl (go_iloadN (pc := 128) d9_128 rfl ?_)
    cases hf
    exact go_iret (pc := 129) rfl d9_129
  · replace hf := (if_neg h2).symm.trans hf
    refine go_ifY (pc := 122) (pc' := 128) d9_122 (XT.ll_ne_t h2) j_122_6 ?_
    refine go_iloadN (pc := 128) d9_128 rfl ?_
    cases hf
    exact go_iret (pc := 129) rfl d9_129
set_option maxRecDepth 65536 in
set_option maxHeartbeats 4000000 in
theorem k_lowestBit_96_ok  {s : S} : ∀ (v3 : Int32) (v4 : Int64)  (x1 : Slot) (x2 : Slot) (hx1 : k2 x1 x2) (o : Int32), k_lowestBit_96 v3 v4 = o → Go PP m9 96 [.val (.ref 1), x1, x2, .val (.int v3), .val (.long v4), .second] [] (none, [(8, s)]) (some (.int o), (none, [(8, s)])) := by
  intro v3 v4 x1 x2 hx1 o hf
  unfold k_lowestBit_96 at hf
  refine go_lload (pc := 96) d9_96 rfl (go_ldc2 (pc := 98) (u := (3 : Int64)) d9_98 (List.mem_of_getElem? (i := 89) rfl) (go_land (pc := 101) d9_101 (go_lconst (pc := 102) d9_102 cl_0 (go_lcmp (pc := 103) d9_103 ?_))))
  by_cases h1 : (v4 &&& (3 : Int64)) = (0 : Int64)
  · refine go_ifN (pc := 104) d9_104 (XT.ll_ne_f h1) ?_
    refine go_iinc (pc := 107) (L' := [.val (.ref 1), x1, x2, .val (.int (v3 + (2 : Int32))), .val (.long v4), .second]) d9_107 rfl ci_2 rfl (go_lload (pc := 110) d9_110 rfl (go_iconst (pc := 112) d9_112 ci_2 (go_lushr (pc := 113) d9_113 (go_lstore (pc := 114) (L' := [.val (.ref 1), x1, x2, .val (.int (v3 + (2 : Int32))), .val (.long (XT.ushrL v4 (2 : Int32))), .second]) d9_114 rfl ?_))))
    exact k_lowestBit_116_ok (v3 + (2 : Int32)) (XT.ushrL v4 (2 : Int32)) x1 x2 hx1 _ (by first | simpa only [if_pos h1] using hf | contradiction)
  · refine go_ifY (pc := 104) (pc' := 116) d9_104 (XT.ll_ne_t h1) j_104_12 ?_
    exact k_lowestBit_116_ok v3 v4 x1 x2 hx1 _ (by first | simpa only [if_neg h1] using hf | contradiction)
set_option maxRecDepth 65536 in
set_option maxHeartbeats 4000000 in
theorem k_lowestBit_76_ok  {s : S} : ∀ (v3 : Int32) (v4 : Int64)  (x1 : Slot) (x2 : Slot) (hx1 : k2 x1 x2) (o : Int32), k_lowestBit_76 v3 v4 = o → Go PP m9 76 [.val (.ref 1), x1, x2, .val (.int v3), .val (.long v4), .second] [] (none, [(8, s)]) (some (.int o), (none, [(8, s)])) := by
  intro v3 v4 x1 x2 hx1 o hf
  unfold k_lowestBit_76 at hf
  refine go_lload (pc := 76) d9_76 rfl (go_ldc2 (pc := 78) (u := (15 : Int64)) d9_78 (List.mem_of_getElem? (i := 88) rfl) (go_land (pc := 81) d9_81 (go_lconst (pc := 82) d9_82 cl_0 (go_lcmp (pc := 83) d9_83 ?_))))
  by_cases h1 : (v4 &&& (15 : Int64)) = (0 : Int64)
  · refine go_ifN (pc := 84) d9_84 (XT.ll_ne_f h1) ?_
    refine go_iinc (pc := 87) (L' := [.val (.ref 1), x1, x2, .val (.int (v3 + (4 : Int32))), .val (.long v4), .second]) d9_87 rfl ci_4 rfl (go_lload (pc := 90) d9_90 rfl (go_iconst (pc := 92) d9_92 ci_4 (go_lushr (pc := 93) d9_93 (go_lstore (pc := 94) (L' := [.val (.ref 1), x1, x2, .val (.int (v3 + (4 : Int32))), .val (.long (XT.ushrL v4 (4 : Int32))), .second]) d9_94 rfl ?_))))
    exact k_lowestBit_96_ok (v3 + (4 : Int32)) (XT.ushrL v4 (4 : Int32)) x1 x2 hx1 _ (by first | simpa only [if_pos h1] using hf | contradiction)
  · refine go_ifY (pc := 84) (pc' := 96) d9_84 (XT.ll_ne_t h1) j_84_12 ?_
    exact k_lowestBit_96_ok v3 v4 x1 x2 hx1 _ (by first | simpa only [if_neg h1] using hf | contradiction)
set_option maxRecDepth 65536 in
set_option maxHeartbeats 4000000 in
theorem k_lowestBit_55_ok  {s : S} : ∀ (v3 : Int32) (v4 : Int64)  (x1 : Slot) (x2 : Slot) (hx1 : k2 x1 x2) (o : Int32), k_lowestBit_55 v3 v4 = o → Go PP m9 55 [.val (.ref 1), x1, x2, .val (.int v3), .val (.long v4), .second] [] (none, [(8, s)]) (some (.int o), (none, [(8, s)])) := by
  intro v3 v4 x1 x2 hx1 o hf
  unfold k_lowestBit_55 at hf
  refine go_lload (pc := 55) d9_55 rfl (go_ldc2 (pc := 57) (u := (255 : Int64)) d9_57 (List.mem_of_getElem? (i := 87) rfl) (go_land (pc := 60) d9_60 (go_lconst (pc := 61) d9_61 cl_0 (go_lcmp (pc := 62) d9_62 ?_))))
  by_cases h1 : (v4 &&& (255 : Int64)) = (0 : Int64)
  · refine go_ifN (pc := 63) d9_63 (XT.ll_ne_f h1) ?_
    refine go_iinc (pc := 66) (L' := [.val (.ref 1), x1, x2, .val (.int (v3 + (8 : Int32))), .val (.long v4), .second]) d9_66 rfl ci_8 rfl (go_lload (pc := 69) d9_69 rfl (go_bipush (pc := 71) d9_71 cb_8 (go_lushr (pc := 73) d9_73 (go_lstore (pc := 74) (L' := [.val (.ref 1), x1, x2, .val (.int (v3 + (8 : Int32))), .val (.long (XT.ushrL v4 (8 : Int32))), .second]) d9_74 rfl ?_))))
    exact k_lowestBit_76_ok (v3 + (8 : Int32)) (XT.ushrL v4 (8 : Int32)) x1 x2 hx1 _ (by first | simpa only [if_pos h1] using hf | contradiction)
  · refine go_ifY (pc := 63) (pc' := 76) d9_63 (XT.ll_ne_t h1) j_63_13 ?_
    exact k_lowestBit_76_ok v3 v4 x1 x2 hx1 _ (by first | simpa only [if_neg h1] using hf | contradiction)
set_option maxRecDepth 65536 in
set_option maxHeartbeats 4000000 in
theorem k_lowestBit_34_ok  {s : S} : ∀ (v3 : Int32) (v4 : Int64)  (x1 : Slot) (x2 : Slot) (hx1 : k2 x1 x2) (o : Int32), k_lowestBit_34 v3 v4 = o → Go PP m9 34 [.val (.ref 1), x1, x2, .val (.int v3), .val (.long v4), .second] [] (none, [(8, s)]) (some (.int o), (none, [(8, s)])) := by
  intro v3 v4 x1 x2 hx1 o hf
  unfold k_lowestBit_34 at hf
  refine go_lload (pc := 34) d9_34 rfl (go_ldc2 (pc := 36) (u := (65535 : Int64)) d9_36 (List.mem_of_getElem? (i := 86) rfl) (go_land (pc := 39) d9_39 (go_lconst (pc := 40) d9_40 cl_0 (go_lcmp (pc := 41) d9_41 ?_))))
  by_cases h1 : (v4 &&& (65535 : Int64)) = (0 : Int64)
  · refine go_ifN (pc := 42) d9_42 (XT.ll_ne_f h1) ?_
    refine go_iinc (pc := 45) (L' := [.val (.ref 1), x1, x2, .val (.int (v3 + (16 : Int32))), .val (.long v4), .second]) d9_45 rfl ci_16 rfl (go_lload (pc := 48) d9_48 rfl (go_bipush (pc := 50) d9_50 cb_16 (go_lushr (pc := 52) d9_52 (go_lstore (pc := 53) (L' := [.val (.ref 1), x1, x2, .val (.int (v3 + (16 : Int32))), .val (.long (XT.ushrL v4 (16 : Int32))), .second]) d9_53 rfl ?_))))
    exact k_lowestBit_55_ok (v3 + (16 : Int32)) (XT.ushrL v4 (16 : Int32)) x1 x2 hx1 _ (by first | simpa only [if_pos h1] using hf | contradiction)
  · refine go_ifY (pc := 42) (pc' := 55) d9_42 (XT.ll_ne_t h1) j_42_13 ?_
    exact k_lowestBit_55_ok v3 v4 x1 x2 hx1 _ (by first | simpa only [if_neg h1] using hf | contradiction)
set_option maxRecDepth 65536 in
set_option maxHeartbeats 4000000 in
theorem k_lowestBit_ok  {s : S} : ∀ (v1 : Int64)   (o : Int32), k_lowestBit v1 = o → Go PP m9 0 [.val (.ref 1), .val (.long v1), .second, .unset, .unset, .unset] [] (none, [(8, s)]) (some (.int o), (none, [(8, s)])) := by
  intro v1 o hf
  unfold k_lowestBit at hf
  refine go_lloadN (pc := 0) d9_0 rfl (go_lconst (pc := 1) d9_1 cl_0 (go_lcmp (pc := 2) d9_2 ?_))
  by_cases h1 : v1 = (0 : Int64)
  · replace hf := (if_pos h1).symm.trans hf
    refine go_ifN (pc := 3) d9_3 (XT.ll_ne_f h1) ?_
    refine go_iconst (pc := 6) d9_6 ci_m1 ?_
    cases hf
    exact go_iret (pc := 7) rfl d9_7
  · replace hf := (if_neg h1).symm.trans hf
    refine go_ifY (pc := 3) (pc' := 8) d9_3 (XT.ll_ne_t h1) j_3_5 ?_
    refine go_iconst (pc := 8) d9_8 ci_0 (go_istoreN (pc := 9) (L' := [.val (.ref 1), .val (.long v1), .second, .val (.int (0 : Int32)), .unset, .unset]) d9_9 rfl (go_lloadN (pc := 10) d9_10 rfl (go_lstore (pc := 11) (L' := [.val (.ref 1), .val (.long v1), .second, .val (.int (0 : Int32)), .val (.long v1), .second]) d9_11 rfl (go_lload (pc := 13) d9_13 rfl (go_ldc2 (pc := 15) (u := (4294967295 : Int64)) d9_15 (List.mem_of_getElem? (i := 85) rfl) (go_land (pc := 18) d9_18 (go_lconst (pc := 19) d9_19 cl_0 ?_)))))))
    refine go_lcmp (pc := 20) d9_20 ?_
    by_cases h2 : (v1 &&& (4294967295 : Int64)) = (0 : Int64)
    · refine go_ifN (pc := 21) d9_21 (XT.ll_ne_f h2) ?_
      refine go_iinc (pc := 24) (L' := [.val (.ref 1), .val (.long v1), .second, .val (.int ((0 : Int32) + (32 : Int32))), .val (.long v1), .second]) d9_24 rfl ci_32 rfl (go_lload (pc := 27) d9_27 rfl (go_bipush (pc := 29) d9_29 cb_32 (go_lushr (pc := 31) d9_31 (go_lstore (pc := 32) (L' := [.val (.ref 1), .val (.long v1), .second, .val (.int ((0 : Int32) + (32 : Int32))), .val (.long (XT.ushrL v1 (32 : Int32))), .second]) d9_32 rfl ?_))))
      exact k_lowestBit_34_ok ((0 : Int32) + (32 : Int32)) (XT.ushrL v1 (32 : Int32)) (.val (.long v1)) .second (Or.inr ⟨_, rfl, rfl⟩) _ (by first | simpa only [if_pos h2] using hf | contradiction)
    · refine go_ifY (pc := 21) (pc' := 34) d9_21 (XT.ll_ne_t h2) j_21_13 ?_
      exact k_lowestBit_34_ok (0 : Int32) v1 (.val (.long v1)) .second (Or.inr ⟨_, rfl, rfl⟩) _ (by first | simpa only [if_neg h2] using hf | contradiction)
theorem c_k_lowestBit (v1 : Int64) (s : S) : Call PP m9 [.ref 1, .long v1] (none, [(8, s)]) (some (.int (k_lowestBit v1)), (none, [(8, s)])) := call_of_go pl_0 rfl (fun h => nomatch h) (k_lowestBit_ok v1   _ rfl)
set_option maxRecDepth 65536 in
set_option maxHeartbeats 4000000 in
theorem k_frameInRange_ok  : ∀ (v1 : Int32) (s : S)  (o : Int32), k_frameInRange v1 s = o → Go PP m10 0 [.val (.ref 1), .val (.int v1)] [] (none, [(8, s)]) (some (.int o), (none, [(8, s)])) := by
  intro v1 s o hf
  unfold k_frameInRange at hf
  refine go_iloadN (pc := 0) d10_0 rfl ?_
  by_cases h1 : v1 < 0
  · replace hf := (if_pos h1).symm.trans hf
    refine go_ifY (pc := 1) (pc' := 16) d10_1 (XT.i0_lt_t h1) j_1_15 ?_
    refine go_iconst (pc := 16) d10_16 ci_0 ?_
    cases hf
    exact go_zret (pc := 17) rfl d10_17 (show (0 : Int32) = nar .boolean (0 : Int32) by decide)
  · replace hf := (if_neg h1).symm.trans hf
    refine go_ifN (pc := 1) d10_1 (XT.i0_lt_f h1) ?_
    refine go_iloadN (pc := 4) d10_4 rfl (go_aloadN (pc := 5) d10_5 rfl (go_getI (pc := 6) fs_40 hm_10 d10_6 ?_))
    by_cases h2 : v1 < (gI s 0)
    · replace hf := (if_pos h2).symm.trans hf
      refine go_icN (pc := 9) d10_9 (XT.ii_ge_f h2) ?_
      refine go_iconst (pc := 12) d10_12 ci_1 (go_goto (pc := 13) (pc' := 17) d10_13 j_13_4 ?_)
      cases hf
      exact go_zret (pc := 17) rfl d10_17 (show (1 : Int32) = nar .boolean (1 : Int32) by decide)
    · replace hf := (if_neg h2).symm.trans hf
      refine go_icY (pc := 9) (pc' := 16) d10_9 (XT.ii_ge_t h2) j_9_7 ?_
      refine go_iconst (pc := 16) d10_16 ci_0 ?_
      cases hf
      exact go_zret (pc := 17) rfl d10_17 (show (0 : Int32) = nar .boolean (0 : Int32) by decide)
theorem c_k_frameInRange (v1 : Int32) (s : S) : Call PP m10 [.ref 1, .int v1] (none, [(8, s)]) (some (.int (k_frameInRange v1 s)), (none, [(8, s)])) := call_of_go pl_0 rfl (fun h => nomatch h) (k_frameInRange_ok v1 s   _ rfl)
set_option maxRecDepth 65536 in
set_option maxHeartbeats 4000000 in
theorem k_bitOf_10_ok  {s : S} : ∀   (x1 : Slot) (hx1 : k1 x1) (o : Int64), k_bitOf_10 = o → Go PP m11 10 [.val (.ref 1), x1] [] (none, [(8, s)]) (some (.long o), (none, [(8, s)])) := by
  intro x1 hx1 o hf
  unfold k_bitOf_10 at hf
  refine go_lconst (pc := 10) d11_10 cl_0 ?_
  cases hf
  exact go_lret (pc := 11) rfl d11_11
set_option maxRecDepth 65536 in
set_option maxHeartbeats 4000000 in
theorem k_bitOf_ok  {s : S} : ∀ (v1 : Int32)   (o : Int64), k_bitOf v1 = o → Go PP m11 0 [.val (.ref 1), .val (.int v1)] [] (none, [(8, s)]) (some (.long o), (none, [(8, s)])) := by
  intro v1 o hf
  unfold k_bitOf at hf
  refine go_iloadN (pc := 0) d11_0 rfl ?_
  by_cases h1 : v1 < 0
  · replace hf := (if_pos h1).symm.trans hf
    refine go_ifY (pc := 1) (pc' := 10) d11_1 (XT.i0_lt_t h1) j_1_9 ?_
    exact k_bitOf_10_ok (.val (.int v1)) (Or.inr ⟨_, rfl, rfl⟩) _ hf
  · replace hf := (if_neg h1).symm.trans hf
    refine go_ifN (pc := 1) d11_1 (XT.i0_lt_f h1) ?_
    refine go_iloadN (pc := 4) d11_4 rfl (go_bipush (pc := 5) d11_5 cb_63 ?_)
    by_cases h2 : (63 : Int32) < v1
    · replace hf := (if_pos h2).symm.trans hf
      refine go_icN (pc := 7) d11_7 (XT.ii_le_f h2) ?_
      exact k_bitOf_10_ok (.val (.int v1)) (Or.inr ⟨_, rfl, rfl⟩) _ hf
    · replace hf := (if_neg h2).symm.trans hf
      refine go_icY (pc := 7) (pc' := 12) d11_7 (XT.ii_le_t h2) j_7_5 ?_
      refine go_lconst (pc := 12) d11_12 cl_1 (go_iloadN (pc := 13) d11_13 rfl (go_lshl (pc := 14) d11_14 ?_))
      cases hf
      exact go_lret (pc := 15) rfl d11_15
theorem c_k_bitOf (v1 : Int32) (s : S) : Call PP m11 [.ref 1, .int v1] (none, [(8, s)]) (some (.long (k_bitOf v1)), (none, [(8, s)])) := call_of_go pl_0 rfl (fun h => nomatch h) (k_bitOf_ok v1   _ rfl)
set_option maxRecDepth 65536 in
set_option maxHeartbeats 4000000 in
theorem k_enterState_134_ok  : ∀ (v1 : Int32) (v2 : Int32) (s : S) (x3 : Slot) (x4 : Slot) (hx3 : k2 x3 x4) (o : S), k_enterState_134 v1 v2 s = some o → Go PP m12 134 [.val (.ref 1), .val (.int v1), .val (.int v2), x3, x4] [] (none, [(8, s)]) (none, (none, [(8, o)])) := by
  intro v1 v2 s x3 x4 hx3 o hf
  unfold k_enterState_134 at hf
  refine go_aloadN (pc := 134) d12_134 rfl (go_getA (pc := 135) fa_7 hm_12 d12_135 rfl (go_iloadN (pc := 138) d12_138 rfl (go_iloadN (pc := 139) d12_139 rfl (go_i2b (pc := 140) d12_140 ?_))))
  obtain ⟨a141, e1, hf⟩ := Option.bind_eq_some_iff.mp hf
  refine go_bastore (pc := 141) (q := 0) ar_0 (by decide) rfl hn_12 rfl e1 d12_141 ?_
  refine go_aloadN (pc := 142) d12_142 rfl (go_iconst (pc := 143) d12_143 ci_1 (go_putZ (pc := 144) fs_141 hm_12 (wr_6 _) hn_12 (by decide) d12_144 ?_))
  cases hf
  exact go_ret (pc := 147) rfl d12_147
set_option maxRecDepth 65536 in
set_option maxHeartbeats 4000000 in
theorem k_enterState_ok  : ∀ (v1 : Int32) (v2 : Int32) (s : S)  (o : S), k_enterState v1 v2 s = some o → Go PP m12 0 [.val (.ref 1), .val (.int v1), .val (.int v2), .unset, .unset] [] (none, [(8, s)]) (none, (none, [(8, o)])) := by
  intro v1 v2 s o hf
  unfold k_enterState at hf
  refine go_aloadN (pc := 0) d12_0 rfl (go_iloadN (pc := 1) d12_1 rfl ?_)
  refine go_priv (pc := 2) (i := 0) (as := [.int v1]) (rest := []) (w' := (none, [(8, s)])) lk_0_62 pd_10 rfl oid_0 rfl rfl rfl rfl rfl rfl ⟨rfl, rfl, rfl, rfl, rfl⟩ d12_2 (c_k_frameInRange v1 s) ?_
  by_cases h1 : (k_frameInRange v1 s) = 0
  · replace hf := (if_pos h1).symm.trans hf
    refine go_ifN (pc := 5) d12_5 (XT.i0_ne_f h1) ?_
    cases hf
    exact go_ret (pc := 8) rfl d12_8
  · replace hf := (if_neg h1).symm.trans hf
    refine go_ifY (pc := 5) (pc' := 9) d12_5 (XT.i0_ne_t h1) j_5_4 ?_
    refine go_aloadN (pc := 9) d12_9 rfl (go_iloadN (pc := 10) d12_10 rfl ?_)
    refine go_priv (pc := 11) (i := 0) (as := [.int v1]) (rest := []) (w' := (none, [(8, s)])) lk_0_145 pd_11 rfl oid_0 rfl rfl rfl rfl rfl rfl ⟨rfl, rfl, rfl, rfl, rfl⟩ d12_11 (c_k_bitOf v1 s) ?_
    refine go_lstoreN (pc := 14) (L' := [.val (.ref 1), .val (.int v1), .val (.int v2), .val (.long (k_bitOf v1)), .second]) d12_14 rfl (go_aloadN (pc := 15) d12_15 rfl (go_aloadN (pc := 16) d12_16 rfl (go_getJ (pc := 17) fs_54 hm_12 d12_17 (go_lloadN (pc := 20) d12_20 rfl (go_ldc2 (pc := 21) (u := (-1 : Int64)) d12_21 (List.mem_of_getElem? (i := 102) rfl) (go_lxor (pc := 24) d12_24 (go_land (pc := 25) d12_25 ?_)))))))
    refine go_putJ (pc := 26) fs_54 hm_12 (wr_2 _) hn_12 d12_26 (go_aloadN (pc := 29) d12_29 rfl (go_aloadN (pc := 30) d12_30 rfl (go_getJ (pc := 31) fs_132 hm_12 d12_31 (go_lloadN (pc := 34) d12_34 rfl (go_ldc2 (pc := 35) (u := (-1 : Int64)) d12_35 (List.mem_of_getElem? (i := 102) rfl) (go_lxor (pc := 38) d12_38 (go_land (pc := 39) d12_39 ?_)))))))
    refine go_putJ (pc := 40) fs_132 hm_12 (wr_3 _) hn_12 d12_40 (go_aloadN (pc := 43) d12_43 rfl (go_aloadN (pc := 44) d12_44 rfl (go_getJ (pc := 45) fs_135 hm_12 d12_45 (go_lloadN (pc := 48) d12_48 rfl (go_ldc2 (pc := 49) (u := (-1 : Int64)) d12_49 (List.mem_of_getElem? (i := 102) rfl) (go_lxor (pc := 52) d12_52 (go_land (pc := 53) d12_53 ?_)))))))
    refine go_putJ (pc := 54) fs_135 hm_12 (wr_4 _) hn_12 d12_54 (go_aloadN (pc := 57) d12_57 rfl (go_aloadN (pc := 58) d12_58 rfl (go_getJ (pc := 59) fs_138 hm_12 d12_59 (go_lloadN (pc := 62) d12_62 rfl (go_ldc2 (pc := 63) (u := (-1 : Int64)) d12_63 (List.mem_of_getElem? (i := 102) rfl) (go_lxor (pc := 66) d12_66 (go_land (pc := 67) d12_67 ?_)))))))
    refine go_putJ (pc := 68) fs_138 hm_12 (wr_5 _) hn_12 d12_68 (go_iloadN (pc := 71) d12_71 rfl ?_)
    by_cases h2 : v2 = 0
    · replace hf := (if_pos h2).symm.trans hf
      refine go_ifN (pc := 72) d12_72 (XT.i0_ne_f h2) ?_
      refine go_aloadN (pc := 75) d12_75 rfl (go_aloadN (pc := 76) d12_76 rfl (go_getJ (pc := 77) fs_54 hm_12 d12_77 (go_lloadN (pc := 80) d12_80 rfl (go_lor (pc := 81) d12_81 (go_putJ (pc := 82) fs_54 hm_12 (wr_2 _) hn_12 d12_82 (go_goto (pc := 85) (pc' := 134) d12_85 j_85_49 ?_))))))
      exact k_enterState_134_ok v1 v2 (sL (sL (sL (sL (sL s 2 ((gL s 2) &&& ((k_bitOf v1) ^^^ (-1 : Int64)))) 3 ((gL s 3) &&& ((k_bitOf v1) ^^^ (-1 : Int64)))) 4 ((gL s 4) &&& ((k_bitOf v1) ^^^ (-1 : Int64)))) 5 ((gL s 5) &&& ((k_bitOf v1) ^^^ (-1 : Int64)))) 2 (((gL s 2) &&& ((k_bitOf v1) ^^^ (-1 : Int64))) ||| (k_bitOf v1))) (.val (.long (k_bitOf v1))) .second (Or.inr ⟨_, rfl, rfl⟩) _ hf
    · replace hf := (if_neg h2).symm.trans hf
      refine go_ifY (pc := 72) (pc' := 88) d12_72 (XT.i0_ne_t h2) j_72_16 ?_
      refine go_iloadN (pc := 88) d12_88 rfl (go_iconst (pc := 89) d12_89 ci_1 ?_)
      by_cases h3 : v2 = (1 : Int32)
      · replace hf := (if_pos h3).symm.trans hf
        refine go_icN (pc := 90) d12_90 (XT.ii_ne_f h3) ?_
        refine go_aloadN (pc := 93) d12_93 rfl (go_aloadN (pc := 94) d12_94 rfl (go_getJ (pc := 95) fs_132 hm_12 d12_95 (go_lloadN (pc := 98) d12_98 rfl (go_lor (pc := 99) d12_99 (go_putJ (pc := 100) fs_132 hm_12 (wr_3 _) hn_12 d12_100 (go_goto (pc := 103) (pc' := 134) d12_103 j_103_31 ?_))))))
        exact k_enterState_134_ok v1 v2 (sL (sL (sL (sL (sL s 2 ((gL s 2) &&& ((k_bitOf v1) ^^^ (-1 : Int64)))) 3 ((gL s 3) &&& ((k_bitOf v1) ^^^ (-1 : Int64)))) 4 ((gL s 4) &&& ((k_bitOf v1) ^^^ (-1 : Int64)))) 5 ((gL s 5) &&& ((k_bitOf v1) ^^^ (-1 : Int64)))) 3 (((gL s 3) &&& ((k_bitOf v1) ^^^ (-1 : Int64))) ||| (k_bitOf v1))) (.val (.long (k_bitOf v1))) .second (Or.inr ⟨_, rfl, rfl⟩) _ hf
      · replace hf := (if_neg h3).symm.trans hf
        refine go_icY (pc := 90) (pc' := 106) d12_90 (XT.ii_ne_t h3) j_90_16 ?_
        refine go_iloadN (pc := 106) d12_106 rfl (go_iconst (pc := 107) d12_107 ci_2 ?_)
        by_cases h4 : v2 = (2 : Int32)
        · replace hf := (if_pos h4).symm.trans hf
          refine go_icN (pc := 108) d12_108 (XT.ii_ne_f h4) ?_
          refine go_aloadN (pc := 111) d12_111 rfl (go_aloadN (pc := 112) d12_112 rfl (go_getJ (pc := 113) fs_135 hm_12 d12_113 (go_lloadN (pc := 116) d12_116 rfl (go_lor (pc := 117) d12_117 (go_putJ (pc := 118) fs_135 hm_12 (wr_4 _) hn_12 d12_118 (go_goto (pc := 121) (pc' := 134) d12_121 j_121_13 ?_))))))
          exact k_enterState_134_ok v1 v2 (sL (sL (sL (sL (sL s 2 ((gL s 2) &&& ((k_bitOf v1) ^^^ (-1 : Int64)))) 3 ((gL s 3) &&& ((k_bitOf v1) ^^^ (-1 : Int64)))) 4 ((gL s 4) &&& ((k_bitOf v1) ^^^ (-1 : Int64)))) 5 ((gL s 5) &&& ((k_bitOf v1) ^^^ (-1 : Int64)))) 4 (((gL s 4) &&& ((k_bitOf v1) ^^^ (-1 : Int64))) ||| (k_bitOf v1))) (.val (.long (k_bitOf v1))) .second (Or.inr ⟨_, rfl, rfl⟩) _ hf
        · replace hf := (if_neg h4).symm.trans hf
          refine go_icY (pc := 108) (pc' := 124) d12_108 (XT.ii_ne_t h4) j_108_16 ?_
          refine go_aloadN (pc := 124) d12_124 rfl (go_aloadN (pc := 125) d12_125 rfl (go_getJ (pc := 126) fs_138 hm_12 d12_126 (go_lloadN (pc := 129) d12_129 rfl (go_lor (pc := 130) d12_130 (go_putJ (pc := 131) fs_138 hm_12 (wr_5 _) hn_12 d12_131 ?_)))))
          exact k_enterState_134_ok v1 v2 (sL (sL (sL (sL (sL s 2 ((gL s 2) &&& ((k_bitOf v1) ^^^ (-1 : Int64)))) 3 ((gL s 3) &&& ((k_bitOf v1) ^^^ (-1 : Int64)))) 4 ((gL s 4) &&& ((k_bitOf v1) ^^^ (-1 : Int64)))) 5 ((gL s 5) &&& ((k_bitOf v1) ^^^ (-1 : Int64)))) 5 (((gL s 5) &&& ((k_bitOf v1) ^^^ (-1 : Int64))) ||| (k_bitOf v1))) (.val (.long (k_bitOf v1))) .second (Or.inr ⟨_, rfl, rfl⟩) _ hf
theorem c_k_enterState (v1 : Int32) (v2 : Int32) (s : S) (o : S) (hf : k_enterState v1 v2 s = some o) : Call PP m12 [.ref 1, .int v1, .int v2] (none, [(8, s)]) (none, (none, [(8, o)])) := call_of_go pl_0 rfl (fun _ => rfl) (k_enterState_ok v1 v2 s   _ hf)
set_option maxRecDepth 65536 in
set_option maxHeartbeats 4000000 in
theorem k_rmapLink_38_ok  : ∀ (v1 : Int32) (v2 : Int32) (s : S) (x3 : Slot) (hx3 : k1 x3) (o : S), k_rmapLink_38 v1 v2 s = some o → Go PP m13 38 [.val (.ref 1), .val (.int v1), .val (.int v2), x3] [] (none, [(8, s)]) (none, (none, [(8, o)])) := by
  intro v1 v2 s x3 hx3 o hf
  unfold k_rmapLink_38 at hf
  refine go_aloadN (pc := 38) d13_38 rfl (go_getA (pc := 39) fa_23 hm_13 d13_39 rfl (go_iloadN (pc := 42) d13_42 rfl (go_iloadN (pc := 43) d13_43 rfl ?_)))
  obtain ⟨a44, e1, hf⟩ := Option.bind_eq_some_iff.mp hf
  refine go_iastore (pc := 44) (q := 4) ar_4 rfl hn_13 e1 d13_44 ?_
  refine go_aloadN (pc := 45) d13_45 rfl (go_getA (pc := 46) fa_20 hm_13 d13_46 rfl (go_iloadN (pc := 49) d13_49 rfl (go_iloadN (pc := 50) d13_50 rfl ?_)))
  obtain ⟨a51, e2, hf⟩ := Option.bind_eq_some_iff.mp hf
  refine go_iastore (pc := 51) (q := 3) ar_3 rfl hn_13 e2 d13_51 ?_
  cases hf
  exact go_ret (pc := 52) rfl d13_52
set_option maxRecDepth 65536 in
set_option maxHeartbeats 4000000 in
theorem k_rmapLink_ok  : ∀ (v1 : Int32) (v2 : Int32) (s : S)  (o : S), k_rmapLink v1 v2 s = some o → Go PP m13 0 [.val (.ref 1), .val (.int v1), .val (.int v2), .unset] [] (none, [(8, s)]) (none, (none, [(8, o)])) := by
  intro v1 v2 s o hf
  unfold k_rmapLink at hf
  refine go_aloadN (pc := 0) d13_0 rfl (go_getA (pc := 1) fa_23 hm_13 d13_1 rfl (go_iloadN (pc := 4) d13_4 rfl ?_))
  obtain ⟨a5, e1, hf⟩ := Option.bind_eq_some_iff.mp hf
  refine go_iaload (pc := 5) (q := 4) ar_4 rfl e1 d13_5 ?_
  refine go_istoreN (pc := 6) (L' := [.val (.ref 1), .val (.int v1), .val (.int v2), .val (.int a5)]) d13_6 rfl (go_aloadN (pc := 7) d13_7 rfl (go_getA (pc := 8) fa_29 hm_13 d13_8 rfl (go_iloadN (pc := 11) d13_11 rfl (go_iconst (pc := 12) d13_12 ci_m1 ?_))))
  obtain ⟨a13, e2, hf⟩ := Option.bind_eq_some_iff.mp hf
  refine go_iastore (pc := 13) (q := 6) ar_6 rfl hn_13 e2 d13_13 ?_
  refine go_aloadN (pc := 14) d13_14 rfl (go_getA (pc := 15) fa_26 hm_13 d13_15 rfl (go_iloadN (pc := 18) d13_18 rfl (go_iloadN (pc := 19) d13_19 rfl ?_)))
  obtain ⟨a20, e3, hf⟩ := Option.bind_eq_some_iff.mp hf
  refine go_iastore (pc := 20) (q := 5) ar_5 rfl hn_13 e3 d13_20 ?_
  refine go_iloadN (pc := 21) d13_21 rfl ?_
  by_cases h4 : a5 < 0
  · replace hf := (if_pos h4).symm.trans hf
    refine go_ifY (pc := 22) (pc' := 38) d13_22 (XT.i0_lt_t h4) j_22_16 ?_
    exact k_rmapLink_38_ok v1 v2 (sA (sA s 6 a13) 5 a20) (.val (.int a5)) (Or.inr ⟨_, rfl, rfl⟩) _ hf
  · replace hf := (if_neg h4).symm.trans hf
    refine go_ifN (pc := 22) d13_22 (XT.i0_lt_f h4) ?_
    refine go_iloadN (pc := 25) d13_25 rfl (go_bipush (pc := 26) d13_26 cb_64 ?_)
    by_cases h5 : a5 < (64 : Int32)
    · replace hf := (if_pos h5).symm.trans hf
      refine go_icN (pc := 28) d13_28 (XT.ii_ge_f h5) ?_
      refine go_aloadN (pc := 31) d13_31 rfl (go_getA (pc := 32) fa_29 hm_13 d13_32 rfl (go_iloadN (pc := 35) d13_35 rfl (go_iloadN (pc := 36) d13_36 rfl ?_)))
      obtain ⟨a37, e6, hf⟩ := Option.bind_eq_some_iff.mp hf
      refine go_iastore (pc := 37) (q := 6) ar_6 rfl hn_13 e6 d13_37 ?_
      exact k_rmapLink_38_ok v1 v2 (sA (sA (sA s 6 a13) 5 a20) 6 a37) (.val (.int a5)) (Or.inr ⟨_, rfl, rfl⟩) _ hf
    · replace hf := (if_neg h5).symm.trans hf
      refine go_icY (pc := 28) (pc' := 38) d13_28 (XT.ii_ge_t h5) j_28_10 ?_
      exact k_rmapLink_38_ok v1 v2 (sA (sA s 6 a13) 5 a20) (.val (.int a5)) (Or.inr ⟨_, rfl, rfl⟩) _ hf
theorem c_k_rmapLink (v1 : Int32) (v2 : Int32) (s : S) (o : S) (hf : k_rmapLink v1 v2 s = some o) : Call PP m13 [.ref 1, .int v1, .int v2] (none, [(8, s)]) (none, (none, [(8, o)])) := call_of_go pl_0 rfl (fun _ => rfl) (k_rmapLink_ok v1 v2 s   _ hf)
set_option maxRecDepth 65536 in
set_option maxHeartbeats 4000000 in
theorem k_attachPage_ok  : ∀ (v1 : Int32) (v2 : Int32) (s : S)  (o : S), k_attachPage v1 v2 s = some o → Go PP m14 0 [.val (.ref 1), .val (.int v1), .val (.int v2)] [] (none, [(8, s)]) (none, (none, [(8, o)])) := by
  intro v1 v2 s o hf
  unfold k_attachPage at hf
  refine go_iloadN (pc := 0) d14_0 rfl ?_
  by_cases h1 : v1 < 0
  · replace hf := (if_pos h1).symm.trans hf
    refine go_ifY (pc := 1) (pc' := 18) d14_1 (XT.i0_lt_t h1) j_1_17 ?_
    cases hf
    exact go_ret (pc := 18) rfl d14_18
  · replace hf := (if_neg h1).symm.trans hf
    refine go_ifN (pc := 1) d14_1 (XT.i0_lt_f h1) ?_
    refine go_iloadN (pc := 4) d14_4 rfl (go_bipush (pc := 5) d14_5 cb_64 ?_)
    by_cases h2 : v1 < (64 : Int32)
    · replace hf := (if_pos h2).symm.trans hf
      refine go_icN (pc := 7) d14_7 (XT.ii_ge_f h2) ?_
      refine go_aloadN (pc := 10) d14_10 rfl (go_iloadN (pc := 11) d14_11 rfl ?_)
      refine go_priv (pc := 12) (i := 0) (as := [.int v2]) (rest := []) (w' := (none, [(8, s)])) lk_0_62 pd_10 rfl oid_0 rfl rfl rfl rfl rfl rfl ⟨rfl, rfl, rfl, rfl, rfl⟩ d14_12 (c_k_frameInRange v2 s) ?_
      by_cases h3 : (k_frameInRange v2 s) = 0
      · replace hf := (if_pos h3).symm.trans hf
        refine go_ifN (pc := 15) d14_15 (XT.i0_ne_f h3) ?_
        cases hf
        exact go_ret (pc := 18) rfl d14_18
      · replace hf := (if_neg h3).symm.trans hf
        refine go_ifY (pc := 15) (pc' := 19) d14_15 (XT.i0_ne_t h3) j_15_4 ?_
        refine go_aloadN (pc := 19) d14_19 rfl (go_iloadN (pc := 20) d14_20 rfl (go_iloadN (pc := 21) d14_21 rfl ?_))
        obtain ⟨r22, e4, hf⟩ := Option.bind_eq_some_iff.mp hf
        refine go_priv (pc := 22) (i := 0) (as := [.int v1, .int v2]) (rest := []) (w' := (none, [(8, r22)])) lk_0_153 pd_13 rfl oid_0 rfl rfl rfl rfl rfl rfl ⟨rfl, rfl, rfl, rfl, rfl⟩ d14_22 (c_k_rmapLink v1 v2 s _ e4) ?_
        refine go_aloadN (pc := 25) d14_25 rfl (go_getA (pc := 26) fa_17 hm_14 d14_26 rfl (go_iloadN (pc := 29) d14_29 rfl (go_aloadN (pc := 30) d14_30 rfl (go_getA (pc := 31) fa_17 hm_14 d14_31 rfl (go_iloadN (pc := 34) d14_34 rfl ?_)))))
        obtain ⟨a35, e5, hf⟩ := Option.bind_eq_some_iff.mp hf
        refine go_iaload (pc := 35) (q := 2) ar_2 rfl e5 d14_35 ?_
        refine go_iconst (pc := 36) d14_36 ci_1 (go_iadd (pc := 37) d14_37 ?_)
        obtain ⟨a38, e6, hf⟩ := Option.bind_eq_some_iff.mp hf
        refine go_iastore (pc := 38) (q := 2) ar_2 rfl hn_14 e6 d14_38 ?_
        cases hf
        exact go_ret (pc := 39) rfl d14_39
    · replace hf := (if_neg h2).symm.trans hf
      refine go_icY (pc := 7) (pc' := 18) d14_7 (XT.ii_ge_t h2) j_7_11 ?_
      cases hf
      exact go_ret (pc := 18) rfl d14_18
theorem c_k_attachPage (v1 : Int32) (v2 : Int32) (s : S) (o : S) (hf : k_attachPage v1 v2 s = some o) : Call PP m14 [.ref 1, .int v1, .int v2] (none, [(8, s)]) (none, (none, [(8, o)])) := call_of_go pl_0 rfl (fun _ => rfl) (k_attachPage_ok v1 v2 s   _ hf)
set_option maxRecDepth 65536 in
set_option maxHeartbeats 4000000 in
theorem k_mapNew_ok  : ∀ (v1 : Int32) (v2 : Int32) (v3 : Int32) (s : S)  (o : Int32 × S), k_mapNew v1 v2 v3 s = some o → Go PP m15 0 [.val (.ref 1), .val (.int v1), .val (.int v2), .val (.int v3), .unset, .unset, .unset] [] (none, [(8, s)]) (some (.int o.1), (none, [(8, o.2)])) := by
  intro v1 v2 v3 s o hf
  unfold k_mapNew at hf
  refine go_aloadN (pc := 0) d15_0 rfl (go_iloadN (pc := 1) d15_1 rfl (go_iloadN (pc := 2) d15_2 rfl ?_))
  obtain ⟨r3, e1, hf⟩ := Option.bind_eq_some_iff.mp hf
  refine go_priv (pc := 3) (i := 0) (as := [.int v1, .int v2]) (rest := []) (w' := (none, [(8, s)])) lk_0_50 pd_8 rfl oid_0 rfl rfl rfl rfl rfl rfl ⟨rfl, rfl, rfl, rfl, rfl⟩ d15_3 (c_k_checkTarget v1 v2 s _ e1) ?_
  refine go_istore (pc := 6) (L' := [.val (.ref 1), .val (.int v1), .val (.int v2), .val (.int v3), .val (.int r3), .unset, .unset]) d15_6 rfl (go_iload (pc := 8) d15_8 rfl ?_)
  by_cases h2 : r3 = 0
  · replace hf := (if_pos h2).symm.trans hf
    refine go_ifY (pc := 10) (pc' := 16) d15_10 (XT.i0_eq_t h2) j_10_6 ?_
    refine go_aloadN (pc := 16) d15_16 rfl (go_getJ (pc := 17) fs_54 hm_15 d15_17 (go_lconst (pc := 20) d15_20 cl_0 (go_lcmp (pc := 21) d15_21 ?_)))
    by_cases h3 : (gL s 2) = (0 : Int64)
    · replace hf := (if_pos h3).symm.trans hf
      refine go_ifN (pc := 22) d15_22 (XT.ll_ne_f h3) ?_
      refine go_bipush (pc := 25) d15_25 cb_m4 ?_
      cases hf
      exact go_iret (pc := 27) rfl d15_27
    · replace hf := (if_neg h3).symm.trans hf
      refine go_ifY (pc := 22) (pc' := 28) d15_22 (XT.ll_ne_t h3) j_22_6 ?_
      refine go_aloadN (pc := 28) d15_28 rfl (go_aloadN (pc := 29) d15_29 rfl (go_getJ (pc := 30) fs_54 hm_15 d15_30 ?_))
      refine go_priv (pc := 33) (i := 0) (as := [.long (gL s 2)]) (rest := []) (w' := (none, [(8, s)])) lk_0_58 pd_9 rfl oid_0 rfl rfl rfl rfl rfl rfl ⟨rfl, rfl, rfl, rfl, rfl⟩ d15_33 (c_k_lowestBit (gL s 2) s) ?_
      refine go_istore (pc := 36) (L' := [.val (.ref 1), .val (.int v1), .val (.int v2), .val (.int v3), .val (.int r3), .val (.int (k_lowestBit (gL s 2))), .unset]) d15_36 rfl (go_aloadN (pc := 38) d15_38 rfl (go_iload (pc := 39) d15_39 rfl ?_))
      refine go_priv (pc := 41) (i := 0) (as := [.int (k_lowestBit (gL s 2))]) (rest := []) (w' := (none, [(8, s)])) lk_0_62 pd_10 rfl oid_0 rfl rfl rfl rfl rfl rfl ⟨rfl, rfl, rfl, rfl, rfl⟩ d15_41 (c_k_frameInRange (k_lowestBit (gL s 2)) s) ?_
      by_cases h4 : (k_frameInRange (k_lowestBit (gL s 2)) s) = 0
      · replace hf := (if_pos h4).symm.trans hf
        refine go_ifN (pc := 44) d15_44 (XT.i0_ne_f h4) ?_
        refine go_bipush (pc := 47) d15_47 cb_m4 ?_
        cases hf
        exact go_iret (pc := 49) rfl d15_49
      · replace hf := (if_neg h4).symm.trans hf
        refine go_ifY (pc := 44) (pc' := 50) d15_44 (XT.i0_ne_t h4) j_44_6 ?_
        refine go_aloadN (pc := 50) d15_50 rfl (go_iloadN (pc := 51) d15_51 rfl (go_iloadN (pc := 52) d15_52 rfl ?_))
        refine go_priv (pc := 53) (i := 0) (as := [.int v1, .int v2]) (rest := []) (w' := (none, [(8, s)])) lk_0_66 pd_7 rfl oid_0 rfl rfl rfl rfl rfl rfl ⟨rfl, rfl, rfl, rfl, rfl⟩ d15_53 (c_k_slotOf v1 v2 s) ?_
        refine go_istore (pc := 56) (L' := [.val (.ref 1), .val (.int v1), .val (.int v2), .val (.int v3), .val (.int r3), .val (.int (k_lowestBit (gL s 2))), .val (.int (k_slotOf v1 v2))]) d15_56 rfl (go_aloadN (pc := 58) d15_58 rfl (go_iload (pc := 59) d15_59 rfl (go_iconst (pc := 61) d15_61 ci_1 ?_)))
        obtain ⟨r62, e5, hf⟩ := Option.bind_eq_some_iff.mp hf
        refine go_priv (pc := 62) (i := 0) (as := [.int (k_lowestBit (gL s 2)), .int (1 : Int32)]) (rest := []) (w' := (none, [(8, r62)])) lk_0_69 pd_12 rfl oid_0 rfl rfl rfl rfl rfl rfl ⟨rfl, rfl, rfl, rfl, rfl⟩ d15_62 (c_k_enterState (k_lowestBit (gL s 2)) (1 : Int32) s _ e5) ?_
        refine go_aloadN (pc := 65) d15_65 rfl (go_getA (pc := 66) fa_13 hm_15 d15_66 rfl (go_iload (pc := 69) d15_69 rfl (go_iloadN (pc := 71) d15_71 rfl ?_)))
        obtain ⟨a72, e6, hf⟩ := Option.bind_eq_some_iff.mp hf
        refine go_iastore (pc := 72) (q := 1) ar_1 rfl hn_15 e6 d15_72 ?_
        refine go_aloadN (pc := 73) d15_73 rfl (go_getA (pc := 74) fa_17 hm_15 d15_74 rfl (go_iload (pc := 77) d15_77 rfl (go_iconst (pc := 79) d15_79 ci_0 ?_)))
        obtain ⟨a80, e7, hf⟩ := Option.bind_eq_some_iff.mp hf
        refine go_iastore (pc := 80) (q := 2) ar_2 rfl hn_15 e7 d15_80 ?_
        refine go_aloadN (pc := 81) d15_81 rfl (go_iload (pc := 82) d15_82 rfl (go_iload (pc := 84) d15_84 rfl ?_))
        obtain ⟨r86, e8, hf⟩ := Option.bind_eq_some_iff.mp hf
        refine go_priv (pc := 86) (i := 0) (as := [.int (k_slotOf v1 v2), .int (k_lowestBit (gL s 2))]) (rest := []) (w' := (none, [(8, r86)])) lk_0_73 pd_14 rfl oid_0 rfl rfl rfl rfl rfl rfl ⟨rfl, rfl, rfl, rfl, rfl⟩ d15_86 (c_k_attachPage (k_slotOf v1 v2) (k_lowestBit (gL s 2)) (sA (sA r62 1 a72) 2 a80) _ e8) ?_
        refine go_iload (pc := 89) d15_89 rfl ?_
        cases hf
        exact go_iret (pc := 91) rfl d15_91
  · replace hf := (if_neg h2).symm.trans hf
    refine go_ifN (pc := 10) d15_10 (XT.i0_eq_f h2) ?_
    refine go_iload (pc := 13) d15_13 rfl ?_
    cases hf
    exact go_iret (pc := 15) rfl d15_15
theorem c_k_mapNew (v1 : Int32) (v2 : Int32) (v3 : Int32) (s : S) (o : Int32 × S) (hf : k_mapNew v1 v2 v3 s = some o) : Call PP m15 [.ref 1, .int v1, .int v2, .int v3] (none, [(8, s)]) (some (.int o.1), (none, [(8, o.2)])) := call_of_go pl_0 rfl (fun h => nomatch h) (k_mapNew_ok v1 v2 v3 s   _ hf)
set_option maxRecDepth 65536 in
set_option maxHeartbeats 4000000 in
theorem k_share_ok  : ∀ (v1 : Int32) (v2 : Int32) (v3 : Int32) (v4 : Int32) (s : S)  (o : Int32 × S), k_share v1 v2 v3 v4 s = some o → Go PP m16 0 [.val (.ref 1), .val (.int v1), .val (.int v2), .val (.int v3), .val (.int v4), .unset, .unset, .unset] [] (none, [(8, s)]) (some (.int o.1), (none, [(8, o.2)])) := by
  intro v1 v2 v3 v4 s o hf
  unfold k_share at hf
  refine go_aloadN (pc := 0) d16_0 rfl (go_iloadN (pc := 1) d16_1 rfl (go_iloadN (pc := 2) d16_2 rfl ?_))
  refine go_priv (pc := 3) (i := 0) (as := [.int v1, .int v2]) (rest := []) (w' := (none, [(8, s)])) lk_0_76 pd_6 rfl oid_0 rfl rfl rfl rfl rfl rfl ⟨rfl, rfl, rfl, rfl, rfl⟩ d16_3 (c_k_pageInRange v1 v2 s) ?_
  by_cases h1 : (k_pageInRange v1 v2 s) = 0
  · replace hf := (if_pos h1).symm.trans hf
    refine go_ifN (pc := 6) d16_6 (XT.i0_ne_f h1) ?_
    refine go_iconst (pc := 9) d16_9 ci_m1 ?_
    cases hf
    exact go_iret (pc := 10) rfl d16_10
  · replace hf := (if_neg h1).symm.trans hf
    refine go_ifY (pc := 6) (pc' := 11) d16_6 (XT.i0_ne_t h1) j_6_5 ?_
    refine go_aloadN (pc := 11) d16_11 rfl (go_iloadN (pc := 12) d16_12 rfl (go_iload (pc := 13) d16_13 rfl ?_))
    refine go_priv (pc := 15) (i := 0) (as := [.int v3, .int v4]) (rest := []) (w' := (none, [(8, s)])) lk_0_76 pd_6 rfl oid_0 rfl rfl rfl rfl rfl rfl ⟨rfl, rfl, rfl, rfl, rfl⟩ d16_15 (c_k_pageInRange v3 v4 s) ?_
    by_cases h2 : (k_pageInRange v3 v4 s) = 0
    · replace hf := (if_pos h2).symm.trans hf
      refine go_ifN (pc := 18) d16_18 (XT.i0_ne_f h2) ?_
      refine go_iconst (pc := 21) d16_21 ci_m1 ?_
      cases hf
      exact go_iret (pc := 22) rfl d16_22
    · replace hf := (if_neg h2).symm.trans hf
      refine go_ifY (pc := 18) (pc' := 23) d16_18 (XT.i0_ne_t h2) j_18_5 ?_
      refine go_aloadN (pc := 23) d16_23 rfl (go_iloadN (pc := 24) d16_24 rfl (go_iloadN (pc := 25) d16_25 rfl ?_))
      refine go_priv (pc := 26) (i := 0) (as := [.int v1, .int v2]) (rest := []) (w' := (none, [(8, s)])) lk_0_66 pd_7 rfl oid_0 rfl rfl rfl rfl rfl rfl ⟨rfl, rfl, rfl, rfl, rfl⟩ d16_26 (c_k_slotOf v1 v2 s) ?_
      refine go_istore (pc := 29) (L' := [.val (.ref 1), .val (.int v1), .val (.int v2), .val (.int v3), .val (.int v4), .val (.int (k_slotOf v1 v2)), .unset, .unset]) d16_29 rfl (go_aloadN (pc := 31) d16_31 rfl (go_getA (pc := 32) fa_20 hm_16 d16_32 rfl (go_iload (pc := 35) d16_35 rfl ?_)))
      obtain ⟨a37, e3, hf⟩ := Option.bind_eq_some_iff.mp hf
      refine go_iaload (pc := 37) (q := 3) ar_3 rfl e3 d16_37 ?_
      by_cases h4 : a37 < 0
      · replace hf := (if_pos h4).symm.trans hf
        refine go_ifY (pc := 38) (pc' := 44) d16_38 (XT.i0_lt_t h4) j_38_6 ?_
        refine go_aloadN (pc := 44) d16_44 rfl (go_iloadN (pc := 45) d16_45 rfl (go_iload (pc := 46) d16_46 rfl ?_))
        refine go_priv (pc := 48) (i := 0) (as := [.int v3, .int v4]) (rest := []) (w' := (none, [(8, s)])) lk_0_66 pd_7 rfl oid_0 rfl rfl rfl rfl rfl rfl ⟨rfl, rfl, rfl, rfl, rfl⟩ d16_48 (c_k_slotOf v3 v4 s) ?_
        refine go_istore (pc := 51) (L' := [.val (.ref 1), .val (.int v1), .val (.int v2), .val (.int v3), .val (.int v4), .val (.int (k_slotOf v1 v2)), .val (.int (k_slotOf v3 v4)), .unset]) d16_51 rfl (go_aloadN (pc := 53) d16_53 rfl (go_getA (pc := 54) fa_20 hm_16 d16_54 rfl (go_iload (pc := 57) d16_57 rfl ?_)))
        obtain ⟨a59, e5, hf⟩ := Option.bind_eq_some_iff.mp hf
        refine go_iaload (pc := 59) (q := 3) ar_3 rfl e5 d16_59 ?_
        refine go_istore (pc := 60) (L' := [.val (.ref 1), .val (.int v1), .val (.int v2), .val (.int v3), .val (.int v4), .val (.int (k_slotOf v1 v2)), .val (.int (k_slotOf v3 v4)), .val (.int a59)]) d16_60 rfl (go_aloadN (pc := 62) d16_62 rfl (go_iload (pc := 63) d16_63 rfl ?_))
        refine go_priv (pc := 65) (i := 0) (as := [.int a59]) (rest := []) (w' := (none, [(8, s)])) lk_0_62 pd_10 rfl oid_0 rfl rfl rfl rfl rfl rfl ⟨rfl, rfl, rfl, rfl, rfl⟩ d16_65 (c_k_frameInRange a59 s) ?_
        by_cases h6 : (k_frameInRange a59 s) = 0
        · replace hf := (if_pos h6).symm.trans hf
          refine go_ifN (pc := 68) d16_68 (XT.i0_ne_f h6) ?_
          refine go_bipush (pc := 71) d16_71 cb_m3 ?_
          cases hf
          exact go_iret (pc := 73) rfl d16_73
        · replace hf := (if_neg h6).symm.trans hf
          refine go_ifY (pc := 68) (pc' := 74) d16_68 (XT.i0_ne_t h6) j_68_6 ?_
          refine go_aloadN (pc := 74) d16_74 rfl (go_iload (pc := 75) d16_75 rfl (go_iload (pc := 77) d16_77 rfl ?_))
          obtain ⟨r79, e7, hf⟩ := Option.bind_eq_some_iff.mp hf
          refine go_priv (pc := 79) (i := 0) (as := [.int (k_slotOf v1 v2), .int a59]) (rest := []) (w' := (none, [(8, r79)])) lk_0_73 pd_14 rfl oid_0 rfl rfl rfl rfl rfl rfl ⟨rfl, rfl, rfl, rfl, rfl⟩ d16_79 (c_k_attachPage (k_slotOf v1 v2) a59 s _ e7) ?_
          refine go_iload (pc := 82) d16_82 rfl ?_
          cases hf
          exact go_iret (pc := 84) rfl d16_84
      · replace hf := (if_neg h4).symm.trans hf
        refine go_ifN (pc := 38) d16_38 (XT.i0_lt_f h4) ?_
        refine go_bipush (pc := 41) d16_41 cb_m2 ?_
        cases hf
        exact go_iret (pc := 43) rfl d16_43
theorem c_k_share (v1 : Int32) (v2 : Int32) (v3 : Int32) (v4 : Int32) (s : S) (o : Int32 × S) (hf : k_share v1 v2 v3 v4 s = some o) : Call PP m16 [.ref 1, .int v1, .int v2, .int v3, .int v4] (none, [(8, s)]) (some (.int o.1), (none, [(8, o.2)])) := call_of_go pl_0 rfl (fun h => nomatch h) (k_share_ok v1 v2 v3 v4 s   _ hf)
set_option maxRecDepth 65536 in
set_option maxHeartbeats 4000000 in
theorem k_rmapUnlink_95_ok  : ∀ (v1 : Int32) (v2 : Int32) (s : S) (x3 : Slot) (x4 : Slot) (hx3 : k1 x3) (hx4 : k1 x4) (o : Int32 × S), k_rmapUnlink_95 v1 v2 s = some o → Go PP m17 95 [.val (.ref 1), .val (.int v1), .val (.int v2), x3, x4] [] (none, [(8, s)]) (some (.int o.1), (none, [(8, o.2)])) := by
  intro v1 v2 s x3 x4 hx3 hx4 o hf
  unfold k_rmapUnlink_95 at hf
  refine go_aloadN (pc := 95) d17_95 rfl (go_getA (pc := 96) fa_29 hm_17 d17_96 rfl (go_iloadN (pc := 99) d17_99 rfl (go_iconst (pc := 100) d17_100 ci_m1 ?_)))
  obtain ⟨a101, e1, hf⟩ := Option.bind_eq_some_iff.mp hf
  refine go_iastore (pc := 101) (q := 6) ar_6 rfl hn_17 e1 d17_101 ?_
  refine go_aloadN (pc := 102) d17_102 rfl (go_getA (pc := 103) fa_26 hm_17 d17_103 rfl (go_iloadN (pc := 106) d17_106 rfl (go_iconst (pc := 107) d17_107 ci_m1 ?_)))
  obtain ⟨a108, e2, hf⟩ := Option.bind_eq_some_iff.mp hf
  refine go_iastore (pc := 108) (q := 5) ar_5 rfl hn_17 e2 d17_108 ?_
  refine go_aloadN (pc := 109) d17_109 rfl (go_getA (pc := 110) fa_20 hm_17 d17_110 rfl (go_iloadN (pc := 113) d17_113 rfl (go_iconst (pc := 114) d17_114 ci_m1 ?_)))
  obtain ⟨a115, e3, hf⟩ := Option.bind_eq_some_iff.mp hf
  refine go_iastore (pc := 115) (q := 3) ar_3 rfl hn_17 e3 d17_115 ?_
  refine go_iloadN (pc := 116) d17_116 rfl ?_
  cases hf
  exact go_iret (pc := 117) rfl d17_117
set_option maxRecDepth 65536 in
set_option maxHeartbeats 4000000 in
theorem k_rmapUnlink_75_ok  : ∀ (v1 : Int32) (v2 : Int32) (v3 : Int32) (v4 : Int32) (s : S)  (o : Int32 × S), k_rmapUnlink_75 v1 v2 v3 v4 s = some o → Go PP m17 75 [.val (.ref 1), .val (.int v1), .val (.int v2), .val (.int v3), .val (.int v4)] [] (none, [(8, s)]) (some (.int o.1), (none, [(8, o.2)])) := by
  intro v1 v2 v3 v4 s o hf
  unfold k_rmapUnlink_75 at hf
  refine go_iload (pc := 75) d17_75 rfl ?_
  by_cases h1 : v4 < 0
  · replace hf := (if_pos h1).symm.trans hf
    refine go_ifY (pc := 77) (pc' := 95) d17_77 (XT.i0_lt_t h1) j_77_18 ?_
    exact k_rmapUnlink_95_ok v1 v2 s (.val (.int v3)) (.val (.int v4)) (Or.inr ⟨_, rfl, rfl⟩) (Or.inr ⟨_, rfl, rfl⟩) _ hf
  · replace hf := (if_neg h1).symm.trans hf
    refine go_ifN (pc := 77) d17_77 (XT.i0_lt_f h1) ?_
    refine go_iload (pc := 80) d17_80 rfl (go_bipush (pc := 82) d17_82 cb_64 ?_)
    by_cases h2 : v4 < (64 : Int32)
    · replace hf := (if_pos h2).symm.trans hf
      refine go_icN (pc := 84) d17_84 (XT.ii_ge_f h2) ?_
      refine go_aloadN (pc := 87) d17_87 rfl (go_getA (pc := 88) fa_29 hm_17 d17_88 rfl (go_iload (pc := 91) d17_91 rfl (go_iloadN (pc := 93) d17_93 rfl ?_)))
      obtain ⟨a94, e3, hf⟩ := Option.bind_eq_some_iff.mp hf
      refine go_iastore (pc := 94) (q := 6) ar_6 rfl hn_17 e3 d17_94 ?_
      exact k_rmapUnlink_95_ok v1 v2 (sA s 6 a94) (.val (.int v3)) (.val (.int v4)) (Or.inr ⟨_, rfl, rfl⟩) (Or.inr ⟨_, rfl, rfl⟩) _ hf
    · replace hf := (if_neg h2).symm.trans hf
      refine go_icY (pc := 84) (pc' := 95) d17_84 (XT.ii_ge_t h2) j_84_11 ?_
      exact k_rmapUnlink_95_ok v1 v2 s (.val (.int v3)) (.val (.int v4)) (Or.inr ⟨_, rfl, rfl⟩) (Or.inr ⟨_, rfl, rfl⟩) _ hf
set_option maxRecDepth 65536 in
set_option maxHeartbeats 4000000 in
theorem k_rmapUnlink_67_ok  : ∀ (v1 : Int32) (v2 : Int32) (v3 : Int32) (v4 : Int32) (s : S)  (o : Int32 × S), k_rmapUnlink_67 v1 v2 v3 v4 s = some o → Go PP m17 67 [.val (.ref 1), .val (.int v1), .val (.int v2), .val (.int v3), .val (.int v4)] [] (none, [(8, s)]) (some (.int o.1), (none, [(8, o.2)])) := by
  intro v1 v2 v3 v4 s o hf
  unfold k_rmapUnlink_67 at hf
  refine go_aloadN (pc := 67) d17_67 rfl (go_getA (pc := 68) fa_23 hm_17 d17_68 rfl (go_iloadN (pc := 71) d17_71 rfl (go_iload (pc := 72) d17_72 rfl ?_)))
  obtain ⟨a74, e1, hf⟩ := Option.bind_eq_some_iff.mp hf
  refine go_iastore (pc := 74) (q := 4) ar_4 rfl hn_17 e1 d17_74 ?_
  exact k_rmapUnlink_75_ok v1 v2 v3 v4 (sA s 4 a74) _ hf
set_option maxRecDepth 65536 in
set_option maxHeartbeats 4000000 in
theorem k_rmapUnlink_ok  : ∀ (v1 : Int32) (s : S)  (o : Int32 × S), k_rmapUnlink v1 s = some o → Go PP m17 0 [.val (.ref 1), .val (.int v1), .unset, .unset, .unset] [] (none, [(8, s)]) (some (.int o.1), (none, [(8, o.2)])) := by
  intro v1 s o hf
  unfold k_rmapUnlink at hf
  refine go_iloadN (pc := 0) d17_0 rfl ?_
  by_cases h1 : v1 < 0
  · replace hf := (if_pos h1).symm.trans hf
    refine go_ifY (pc := 1) (pc' := 10) d17_1 (XT.i0_lt_t h1) j_1_9 ?_
    refine go_iconst (pc := 10) d17_10 ci_m1 ?_
    cases hf
    exact go_iret (pc := 11) rfl d17_11
  · replace hf := (if_neg h1).symm.trans hf
    refine go_ifN (pc := 1) d17_1 (XT.i0_lt_f h1) ?_
    refine go_iloadN (pc := 4) d17_4 rfl (go_bipush (pc := 5) d17_5 cb_64 ?_)
    by_cases h2 : v1 < (64 : Int32)
    · replace hf := (if_pos h2).symm.trans hf
      refine go_icY (pc := 7) (pc' := 12) d17_7 (XT.ii_lt_t h2) j_7_5 ?_
      refine go_aloadN (pc := 12) d17_12 rfl (go_getA (pc := 13) fa_20 hm_17 d17_13 rfl (go_iloadN (pc := 16) d17_16 rfl ?_))
      obtain ⟨a17, e3, hf⟩ := Option.bind_eq_some_iff.mp hf
      refine go_iaload (pc := 17) (q := 3) ar_3 rfl e3 d17_17 ?_
      refine go_istoreN (pc := 18) (L' := [.val (.ref 1), .val (.int v1), .val (.int a17), .unset, .unset]) d17_18 rfl (go_iloadN (pc := 19) d17_19 rfl ?_)
      by_cases h4 : a17 < 0
      · replace hf := (if_pos h4).symm.trans hf
        refine go_ifY (pc := 20) (pc' := 29) d17_20 (XT.i0_lt_t h4) j_20_9 ?_
        refine go_iconst (pc := 29) d17_29 ci_m1 ?_
        cases hf
        exact go_iret (pc := 30) rfl d17_30
      · replace hf := (if_neg h4).symm.trans hf
        refine go_ifN (pc := 20) d17_20 (XT.i0_lt_f h4) ?_
        refine go_iloadN (pc := 23) d17_23 rfl (go_bipush (pc := 24) d17_24 cb_64 ?_)
        by_cases h5 : a17 < (64 : Int32)
        · replace hf := (if_pos h5).symm.trans hf
          refine go_icY (pc := 26) (pc' := 31) d17_26 (XT.ii_lt_t h5) j_26_5 ?_
          refine go_aloadN (pc := 31) d17_31 rfl (go_getA (pc := 32) fa_29 hm_17 d17_32 rfl (go_iloadN (pc := 35) d17_35 rfl ?_))
          obtain ⟨a36, e6, hf⟩ := Option.bind_eq_some_iff.mp hf
          refine go_iaload (pc := 36) (q := 6) ar_6 rfl e6 d17_36 ?_
          refine go_istoreN (pc := 37) (L' := [.val (.ref 1), .val (.int v1), .val (.int a17), .val (.int a36), .unset]) d17_37 rfl (go_aloadN (pc := 38) d17_38 rfl (go_getA (pc := 39) fa_26 hm_17 d17_39 rfl (go_iloadN (pc := 42) d17_42 rfl ?_)))
          obtain ⟨a43, e7, hf⟩ := Option.bind_eq_some_iff.mp hf
          refine go_iaload (pc := 43) (q := 5) ar_5 rfl e7 d17_43 ?_
          refine go_istore (pc := 44) (L' := [.val (.ref 1), .val (.int v1), .val (.int a17), .val (.int a36), .val (.int a43)]) d17_44 rfl (go_iloadN (pc := 46) d17_46 rfl ?_)
          by_cases h8 : a36 < 0
          · replace hf := (if_pos h8).symm.trans hf
            refine go_ifY (pc := 47) (pc' := 67) d17_47 (XT.i0_lt_t h8) j_47_20 ?_
            exact k_rmapUnlink_67_ok v1 a17 a36 a43 s _ hf
          · replace hf := (if_neg h8).symm.trans hf
            refine go_ifN (pc := 47) d17_47 (XT.i0_lt_f h8) ?_
            refine go_iloadN (pc := 50) d17_50 rfl (go_bipush (pc := 51) d17_51 cb_64 ?_)
            by_cases h9 : a36 < (64 : Int32)
            · replace hf := (if_pos h9).symm.trans hf
              refine go_icN (pc := 53) d17_53 (XT.ii_ge_f h9) ?_
              refine go_aloadN (pc := 56) d17_56 rfl (go_getA (pc := 57) fa_26 hm_17 d17_57 rfl (go_iloadN (pc := 60) d17_60 rfl (go_iload (pc := 61) d17_61 rfl ?_)))
              obtain ⟨a63, e10, hf⟩ := Option.bind_eq_some_iff.mp hf
              refine go_iastore (pc := 63) (q := 5) ar_5 rfl hn_17 e10 d17_63 ?_
              refine go_goto (pc := 64) (pc' := 75) d17_64 j_64_11 ?_
              exact k_rmapUnlink_75_ok v1 a17 a36 a43 (sA s 5 a63) _ hf
            · replace hf := (if_neg h9).symm.trans hf
              refine go_icY (pc := 53) (pc' := 67) d17_53 (XT.ii_ge_t h9) j_53_14 ?_
              exact k_rmapUnlink_67_ok v1 a17 a36 a43 s _ hf
        · replace hf := (if_neg h5).symm.trans hf
          refine go_icN (pc := 26) d17_26 (XT.ii_lt_f h5) ?_
          refine go_iconst (pc := 29) d17_29 ci_m1 ?_
          cases hf
          exact go_iret (pc := 30) rfl d17_30
    · replace hf := (if_neg h2).symm.trans hf
      refine go_icN (pc := 7) d17_7 (XT.ii_lt_f h2) ?_
      refine go_iconst (pc := 10) d17_10 ci_m1 ?_
      cases hf
      exact go_iret (pc := 11) rfl d17_11
theorem c_k_rmapUnlink (v1 : Int32) (s : S) (o : Int32 × S) (hf : k_rmapUnlink v1 s = some o) : Call PP m17 [.ref 1, .int v1] (none, [(8, s)]) (some (.int o.1), (none, [(8, o.2)])) := call_of_go pl_0 rfl (fun h => nomatch h) (k_rmapUnlink_ok v1 s   _ hf)
set_option maxRecDepth 65536 in
set_option maxHeartbeats 4000000 in
theorem k_detachPage_ok  : ∀ (v1 : Int32) (s : S)  (o : Int32 × S), k_detachPage v1 s = some o → Go PP m18 0 [.val (.ref 1), .val (.int v1), .unset] [] (none, [(8, s)]) (some (.int o.1), (none, [(8, o.2)])) := by
  intro v1 s o hf
  unfold k_detachPage at hf
  refine go_aloadN (pc := 0) d18_0 rfl (go_iloadN (pc := 1) d18_1 rfl ?_)
  obtain ⟨r2, e1, hf⟩ := Option.bind_eq_some_iff.mp hf
  refine go_priv (pc := 2) (i := 0) (as := [.int v1]) (rest := []) (w' := (none, [(8, r2.2)])) lk_0_156 pd_17 rfl oid_0 rfl rfl rfl rfl rfl rfl ⟨rfl, rfl, rfl, rfl, rfl⟩ d18_2 (c_k_rmapUnlink v1 s _ e1) ?_
  refine go_istoreN (pc := 5) (L' := [.val (.ref 1), .val (.int v1), .val (.int r2.1)]) d18_5 rfl (go_aloadN (pc := 6) d18_6 rfl (go_iloadN (pc := 7) d18_7 rfl ?_))
  refine go_priv (pc := 8) (i := 0) (as := [.int r2.1]) (rest := []) (w' := (none, [(8, r2.2)])) lk_0_62 pd_10 rfl oid_0 rfl rfl rfl rfl rfl rfl ⟨rfl, rfl, rfl, rfl, rfl⟩ d18_8 (c_k_frameInRange r2.1 r2.2) ?_
  by_cases h2 : (k_frameInRange r2.1 r2.2) = 0
  · replace hf := (if_pos h2).symm.trans hf
    refine go_ifN (pc := 11) d18_11 (XT.i0_ne_f h2) ?_
    refine go_iconst (pc := 14) d18_14 ci_m1 ?_
    cases hf
    exact go_iret (pc := 15) rfl d18_15
  · replace hf := (if_neg h2).symm.trans hf
    refine go_ifY (pc := 11) (pc' := 16) d18_11 (XT.i0_ne_t h2) j_11_5 ?_
    refine go_aloadN (pc := 16) d18_16 rfl (go_getA (pc := 17) fa_17 hm_18 d18_17 rfl (go_iloadN (pc := 20) d18_20 rfl (go_aloadN (pc := 21) d18_21 rfl (go_getA (pc := 22) fa_17 hm_18 d18_22 rfl (go_iloadN (pc := 25) d18_25 rfl ?_)))))
    obtain ⟨a26, e3, hf⟩ := Option.bind_eq_some_iff.mp hf
    refine go_iaload (pc := 26) (q := 2) ar_2 rfl e3 d18_26 ?_
    refine go_iconst (pc := 27) d18_27 ci_1 (go_isub (pc := 28) d18_28 ?_)
    obtain ⟨a29, e4, hf⟩ := Option.bind_eq_some_iff.mp hf
    refine go_iastore (pc := 29) (q := 2) ar_2 rfl hn_18 e4 d18_29 ?_
    refine go_iloadN (pc := 30) d18_30 rfl ?_
    cases hf
    exact go_iret (pc := 31) rfl d18_31
theorem c_k_detachPage (v1 : Int32) (s : S) (o : Int32 × S) (hf : k_detachPage v1 s = some o) : Call PP m18 [.ref 1, .int v1] (none, [(8, s)]) (some (.int o.1), (none, [(8, o.2)])) := call_of_go pl_0 rfl (fun h => nomatch h) (k_detachPage_ok v1 s   _ hf)
set_option maxRecDepth 65536 in
set_option maxHeartbeats 4000000 in
theorem k_freeFrame_ok  : ∀ (v1 : Int32) (s : S)  (o : S), k_freeFrame v1 s = some o → Go PP m19 0 [.val (.ref 1), .val (.int v1)] [] (none, [(8, s)]) (none, (none, [(8, o)])) := by
  intro v1 s o hf
  unfold k_freeFrame at hf
  refine go_aloadN (pc := 0) d19_0 rfl (go_iloadN (pc := 1) d19_1 rfl ?_)
  refine go_priv (pc := 2) (i := 0) (as := [.int v1]) (rest := []) (w' := (none, [(8, s)])) lk_0_62 pd_10 rfl oid_0 rfl rfl rfl rfl rfl rfl ⟨rfl, rfl, rfl, rfl, rfl⟩ d19_2 (c_k_frameInRange v1 s) ?_
  by_cases h1 : (k_frameInRange v1 s) = 0
  · replace hf := (if_pos h1).symm.trans hf
    refine go_ifN (pc := 5) d19_5 (XT.i0_ne_f h1) ?_
    cases hf
    exact go_ret (pc := 8) rfl d19_8
  · replace hf := (if_neg h1).symm.trans hf
    refine go_ifY (pc := 5) (pc' := 9) d19_5 (XT.i0_ne_t h1) j_5_4 ?_
    refine go_aloadN (pc := 9) d19_9 rfl (go_getA (pc := 10) fa_13 hm_19 d19_10 rfl (go_iloadN (pc := 13) d19_13 rfl (go_iconst (pc := 14) d19_14 ci_0 ?_)))
    obtain ⟨a15, e2, hf⟩ := Option.bind_eq_some_iff.mp hf
    refine go_iastore (pc := 15) (q := 1) ar_1 rfl hn_19 e2 d19_15 ?_
    refine go_aloadN (pc := 16) d19_16 rfl (go_getA (pc := 17) fa_17 hm_19 d19_17 rfl (go_iloadN (pc := 20) d19_20 rfl (go_iconst (pc := 21) d19_21 ci_0 ?_)))
    obtain ⟨a22, e3, hf⟩ := Option.bind_eq_some_iff.mp hf
    refine go_iastore (pc := 22) (q := 2) ar_2 rfl hn_19 e3 d19_22 ?_
    refine go_aloadN (pc := 23) d19_23 rfl (go_getA (pc := 24) fa_23 hm_19 d19_24 rfl (go_iloadN (pc := 27) d19_27 rfl (go_iconst (pc := 28) d19_28 ci_m1 ?_)))
    obtain ⟨a29, e4, hf⟩ := Option.bind_eq_some_iff.mp hf
    refine go_iastore (pc := 29) (q := 4) ar_4 rfl hn_19 e4 d19_29 ?_
    refine go_aloadN (pc := 30) d19_30 rfl (go_iloadN (pc := 31) d19_31 rfl (go_iconst (pc := 32) d19_32 ci_0 ?_))
    obtain ⟨r33, e5, hf⟩ := Option.bind_eq_some_iff.mp hf
    refine go_priv (pc := 33) (i := 0) (as := [.int v1, .int (0 : Int32)]) (rest := []) (w' := (none, [(8, r33)])) lk_0_69 pd_12 rfl oid_0 rfl rfl rfl rfl rfl rfl ⟨rfl, rfl, rfl, rfl, rfl⟩ d19_33 (c_k_enterState v1 (0 : Int32) (sA (sA (sA s 1 a15) 2 a22) 4 a29) _ e5) ?_
    cases hf
    exact go_ret (pc := 36) rfl d19_36
theorem c_k_freeFrame (v1 : Int32) (s : S) (o : S) (hf : k_freeFrame v1 s = some o) : Call PP m19 [.ref 1, .int v1] (none, [(8, s)]) (none, (none, [(8, o)])) := call_of_go pl_0 rfl (fun _ => rfl) (k_freeFrame_ok v1 s   _ hf)
set_option maxRecDepth 65536 in
set_option maxHeartbeats 4000000 in
theorem k_unmap_ok  : ∀ (v1 : Int32) (v2 : Int32) (s : S)  (o : Int32 × S), k_unmap v1 v2 s = some o → Go PP m20 0 [.val (.ref 1), .val (.int v1), .val (.int v2), .unset, .unset] [] (none, [(8, s)]) (some (.int o.1), (none, [(8, o.2)])) := by
  intro v1 v2 s o hf
  unfold k_unmap at hf
  refine go_aloadN (pc := 0) d20_0 rfl (go_iloadN (pc := 1) d20_1 rfl (go_iloadN (pc := 2) d20_2 rfl ?_))
  refine go_priv (pc := 3) (i := 0) (as := [.int v1, .int v2]) (rest := []) (w' := (none, [(8, s)])) lk_0_76 pd_6 rfl oid_0 rfl rfl rfl rfl rfl rfl ⟨rfl, rfl, rfl, rfl, rfl⟩ d20_3 (c_k_pageInRange v1 v2 s) ?_
  by_cases h1 : (k_pageInRange v1 v2 s) = 0
  · replace hf := (if_pos h1).symm.trans hf
    refine go_ifN (pc := 6) d20_6 (XT.i0_ne_f h1) ?_
    refine go_iconst (pc := 9) d20_9 ci_m1 ?_
    cases hf
    exact go_iret (pc := 10) rfl d20_10
  · replace hf := (if_neg h1).symm.trans hf
    refine go_ifY (pc := 6) (pc' := 11) d20_6 (XT.i0_ne_t h1) j_6_5 ?_
    refine go_aloadN (pc := 11) d20_11 rfl (go_iloadN (pc := 12) d20_12 rfl (go_iloadN (pc := 13) d20_13 rfl ?_))
    refine go_priv (pc := 14) (i := 0) (as := [.int v1, .int v2]) (rest := []) (w' := (none, [(8, s)])) lk_0_66 pd_7 rfl oid_0 rfl rfl rfl rfl rfl rfl ⟨rfl, rfl, rfl, rfl, rfl⟩ d20_14 (c_k_slotOf v1 v2 s) ?_
    refine go_istoreN (pc := 17) (L' := [.val (.ref 1), .val (.int v1), .val (.int v2), .val (.int (k_slotOf v1 v2)), .unset]) d20_17 rfl (go_aloadN (pc := 18) d20_18 rfl (go_getA (pc := 19) fa_20 hm_20 d20_19 rfl (go_iloadN (pc := 22) d20_22 rfl ?_)))
    obtain ⟨a23, e2, hf⟩ := Option.bind_eq_some_iff.mp hf
    refine go_iaload (pc := 23) (q := 3) ar_3 rfl e2 d20_23 ?_
    by_cases h3 : a23 < 0
    · replace hf := (if_pos h3).symm.trans hf
      refine go_ifN (pc := 24) d20_24 (XT.i0_ge_f h3) ?_
      refine go_bipush (pc := 27) d20_27 cb_m3 ?_
      cases hf
      exact go_iret (pc := 29) rfl d20_29
    · replace hf := (if_neg h3).symm.trans hf
      refine go_ifY (pc := 24) (pc' := 30) d20_24 (XT.i0_ge_t h3) j_24_6 ?_
      refine go_aloadN (pc := 30) d20_30 rfl (go_iloadN (pc := 31) d20_31 rfl ?_)
      obtain ⟨r32, e4, hf⟩ := Option.bind_eq_some_iff.mp hf
      refine go_priv (pc := 32) (i := 0) (as := [.int (k_slotOf v1 v2)]) (rest := []) (w' := (none, [(8, r32.2)])) lk_0_80 pd_18 rfl oid_0 rfl rfl rfl rfl rfl rfl ⟨rfl, rfl, rfl, rfl, rfl⟩ d20_32 (c_k_detachPage (k_slotOf v1 v2) s _ e4) ?_
      refine go_istore (pc := 35) (L' := [.val (.ref 1), .val (.int v1), .val (.int v2), .val (.int (k_slotOf v1 v2)), .val (.int r32.1)]) d20_35 rfl (go_aloadN (pc := 37) d20_37 rfl (go_iload (pc := 38) d20_38 rfl ?_))
      refine go_priv (pc := 40) (i := 0) (as := [.int r32.1]) (rest := []) (w' := (none, [(8, r32.2)])) lk_0_62 pd_10 rfl oid_0 rfl rfl rfl rfl rfl rfl ⟨rfl, rfl, rfl, rfl, rfl⟩ d20_40 (c_k_frameInRange r32.1 r32.2) ?_
      by_cases h5 : (k_frameInRange r32.1 r32.2) = 0
      · replace hf := (if_pos h5).symm.trans hf
        refine go_ifN (pc := 43) d20_43 (XT.i0_ne_f h5) ?_
        refine go_bipush (pc := 46) d20_46 cb_m3 ?_
        cases hf
        exact go_iret (pc := 48) rfl d20_48
      · replace hf := (if_neg h5).symm.trans hf
        refine go_ifY (pc := 43) (pc' := 49) d20_43 (XT.i0_ne_t h5) j_43_6 ?_
        refine go_aloadN (pc := 49) d20_49 rfl (go_getA (pc := 50) fa_17 hm_20 d20_50 rfl (go_iload (pc := 53) d20_53 rfl ?_))
        obtain ⟨a55, e6, hf⟩ := Option.bind_eq_some_iff.mp hf
        refine go_iaload (pc := 55) (q := 2) ar_2 rfl e6 d20_55 ?_
        by_cases h7 : 0 < a55
        · replace hf := (if_pos h7).symm.trans hf
          refine go_ifY (pc := 56) (pc' := 65) d20_56 (XT.i0_gt_t h7) j_56_9 ?_
          refine go_iload (pc := 65) d20_65 rfl ?_
          cases hf
          exact go_iret (pc := 67) rfl d20_67
        · replace hf := (if_neg h7).symm.trans hf
          refine go_ifN (pc := 56) d20_56 (XT.i0_gt_f h7) ?_
          refine go_aloadN (pc := 59) d20_59 rfl (go_iload (pc := 60) d20_60 rfl ?_)
          obtain ⟨r62, e8, hf⟩ := Option.bind_eq_some_iff.mp hf
          refine go_priv (pc := 62) (i := 0) (as := [.int r32.1]) (rest := []) (w' := (none, [(8, r62)])) lk_0_84 pd_19 rfl oid_0 rfl rfl rfl rfl rfl rfl ⟨rfl, rfl, rfl, rfl, rfl⟩ d20_62 (c_k_freeFrame r32.1 r32.2 _ e8) ?_
          refine go_iload (pc := 65) d20_65 rfl ?_
          cases hf
          exact go_iret (pc := 67) rfl d20_67
theorem c_k_unmap (v1 : Int32) (v2 : Int32) (s : S) (o : Int32 × S) (hf : k_unmap v1 v2 s = some o) : Call PP m20 [.ref 1, .int v1, .int v2] (none, [(8, s)]) (some (.int o.1), (none, [(8, o.2)])) := call_of_go pl_0 rfl (fun h => nomatch h) (k_unmap_ok v1 v2 s   _ hf)
set_option maxRecDepth 65536 in
set_option maxHeartbeats 4000000 in
theorem k_mappedFrame_ok  : ∀ (v1 : Int32) (v2 : Int32) (s : S)  (o : Int32), k_mappedFrame v1 v2 s = some o → Go PP m21 0 [.val (.ref 1), .val (.int v1), .val (.int v2), .unset, .unset] [] (none, [(8, s)]) (some (.int o), (none, [(8, s)])) := by
  intro v1 v2 s o hf
  unfold k_mappedFrame at hf
  refine go_aloadN (pc := 0) d21_0 rfl (go_iloadN (pc := 1) d21_1 rfl (go_iloadN (pc := 2) d21_2 rfl ?_))
  refine go_priv (pc := 3) (i := 0) (as := [.int v1, .int v2]) (rest := []) (w' := (none, [(8, s)])) lk_0_76 pd_6 rfl oid_0 rfl rfl rfl rfl rfl rfl ⟨rfl, rfl, rfl, rfl, rfl⟩ d21_3 (c_k_pageInRange v1 v2 s) ?_
  by_cases h1 : (k_pageInRange v1 v2 s) = 0
  · replace hf := (if_pos h1).symm.trans hf
    refine go_ifN (pc := 6) d21_6 (XT.i0_ne_f h1) ?_
    refine go_iconst (pc := 9) d21_9 ci_m1 ?_
    cases hf
    exact go_iret (pc := 10) rfl d21_10
  · replace hf := (if_neg h1).symm.trans hf
    refine go_ifY (pc := 6) (pc' := 11) d21_6 (XT.i0_ne_t h1) j_6_5 ?_
    refine go_aloadN (pc := 11) d21_11 rfl (go_iloadN (pc := 12) d21_12 rfl (go_iloadN (pc := 13) d21_13 rfl ?_))
    refine go_priv (pc := 14) (i := 0) (as := [.int v1, .int v2]) (rest := []) (w' := (none, [(8, s)])) lk_0_66 pd_7 rfl oid_0 rfl rfl rfl rfl rfl rfl ⟨rfl, rfl, rfl, rfl, rfl⟩ d21_14 (c_k_slotOf v1 v2 s) ?_
    refine go_istoreN (pc := 17) (L' := [.val (.ref 1), .val (.int v1), .val (.int v2), .val (.int (k_slotOf v1 v2)), .unset]) d21_17 rfl (go_aloadN (pc := 18) d21_18 rfl (go_getA (pc := 19) fa_20 hm_21 d21_19 rfl (go_iloadN (pc := 22) d21_22 rfl ?_)))
    obtain ⟨a23, e2, hf⟩ := Option.bind_eq_some_iff.mp hf
    refine go_iaload (pc := 23) (q := 3) ar_3 rfl e2 d21_23 ?_
    refine go_istore (pc := 24) (L' := [.val (.ref 1), .val (.int v1), .val (.int v2), .val (.int (k_slotOf v1 v2)), .val (.int a23)]) d21_24 rfl (go_aloadN (pc := 26) d21_26 rfl (go_iload (pc := 27) d21_27 rfl ?_))
    refine go_priv (pc := 29) (i := 0) (as := [.int a23]) (rest := []) (w' := (none, [(8, s)])) lk_0_62 pd_10 rfl oid_0 rfl rfl rfl rfl rfl rfl ⟨rfl, rfl, rfl, rfl, rfl⟩ d21_29 (c_k_frameInRange a23 s) ?_
    by_cases h3 : (k_frameInRange a23 s) = 0
    · replace hf := (if_pos h3).symm.trans hf
      refine go_ifN (pc := 32) d21_32 (XT.i0_ne_f h3) ?_
      refine go_iconst (pc := 35) d21_35 ci_m1 ?_
      cases hf
      exact go_iret (pc := 36) rfl d21_36
    · replace hf := (if_neg h3).symm.trans hf
      refine go_ifY (pc := 32) (pc' := 37) d21_32 (XT.i0_ne_t h3) j_32_5 ?_
      refine go_iload (pc := 37) d21_37 rfl ?_
      cases hf
      exact go_iret (pc := 39) rfl d21_39
theorem c_k_mappedFrame (v1 : Int32) (v2 : Int32) (s : S) (o : Int32) (hf : k_mappedFrame v1 v2 s = some o) : Call PP m21 [.ref 1, .int v1, .int v2] (none, [(8, s)]) (some (.int o), (none, [(8, s)])) := call_of_go pl_0 rfl (fun h => nomatch h) (k_mappedFrame_ok v1 v2 s   _ hf)
set_option maxRecDepth 65536 in
set_option maxHeartbeats 4000000 in
theorem k_write_ok  : ∀ (v1 : Int32) (v2 : Int32) (v3 : Int32) (s : S)  (o : Int32 × S), k_write v1 v2 v3 s = some o → Go PP m22 0 [.val (.ref 1), .val (.int v1), .val (.int v2), .val (.int v3), .unset] [] (none, [(8, s)]) (some (.int o.1), (none, [(8, o.2)])) := by
  intro v1 v2 v3 s o hf
  unfold k_write at hf
  refine go_aloadN (pc := 0) d22_0 rfl (go_iloadN (pc := 1) d22_1 rfl (go_iloadN (pc := 2) d22_2 rfl ?_))
  obtain ⟨r3, e1, hf⟩ := Option.bind_eq_some_iff.mp hf
  refine go_priv (pc := 3) (i := 0) (as := [.int v1, .int v2]) (rest := []) (w' := (none, [(8, s)])) lk_0_88 pd_21 rfl oid_0 rfl rfl rfl rfl rfl rfl ⟨rfl, rfl, rfl, rfl, rfl⟩ d22_3 (c_k_mappedFrame v1 v2 s _ e1) ?_
  refine go_istore (pc := 6) (L' := [.val (.ref 1), .val (.int v1), .val (.int v2), .val (.int v3), .val (.int r3)]) d22_6 rfl (go_iload (pc := 8) d22_8 rfl ?_)
  by_cases h2 : r3 < 0
  · replace hf := (if_pos h2).symm.trans hf
    refine go_ifN (pc := 10) d22_10 (XT.i0_ge_f h2) ?_
    refine go_iconst (pc := 13) d22_13 ci_0 ?_
    cases hf
    exact go_zret (pc := 14) rfl d22_14 (show (0 : Int32) = nar .boolean (0 : Int32) by decide)
  · replace hf := (if_neg h2).symm.trans hf
    refine go_ifY (pc := 10) (pc' := 15) d22_10 (XT.i0_ge_t h2) j_10_5 ?_
    refine go_aloadN (pc := 15) d22_15 rfl (go_getA (pc := 16) fa_13 hm_22 d22_16 rfl (go_iload (pc := 19) d22_19 rfl (go_iloadN (pc := 21) d22_21 rfl ?_)))
    obtain ⟨a22, e3, hf⟩ := Option.bind_eq_some_iff.mp hf
    refine go_iastore (pc := 22) (q := 1) ar_1 rfl hn_22 e3 d22_22 ?_
    refine go_iconst (pc := 23) d22_23 ci_1 ?_
    cases hf
    exact go_zret (pc := 24) rfl d22_24 (show (1 : Int32) = nar .boolean (1 : Int32) by decide)
theorem c_k_write (v1 : Int32) (v2 : Int32) (v3 : Int32) (s : S) (o : Int32 × S) (hf : k_write v1 v2 v3 s = some o) : Call PP m22 [.ref 1, .int v1, .int v2, .int v3] (none, [(8, s)]) (some (.int o.1), (none, [(8, o.2)])) := call_of_go pl_0 rfl (fun h => nomatch h) (k_write_ok v1 v2 v3 s   _ hf)
set_option maxRecDepth 65536 in
set_option maxHeartbeats 4000000 in
theorem k_frameOf_ok  : ∀ (v1 : Int32) (v2 : Int32) (s : S)  (o : Int32), k_frameOf v1 v2 s = some o → Go PP m23 0 [.val (.ref 1), .val (.int v1), .val (.int v2), .unset] [] (none, [(8, s)]) (some (.int o), (none, [(8, s)])) := by
  intro v1 v2 s o hf
  unfold k_frameOf at hf
  refine go_aloadN (pc := 0) d23_0 rfl (go_iloadN (pc := 1) d23_1 rfl (go_iloadN (pc := 2) d23_2 rfl ?_))
  obtain ⟨r3, e1, hf⟩ := Option.bind_eq_some_iff.mp hf
  refine go_priv (pc := 3) (i := 0) (as := [.int v1, .int v2]) (rest := []) (w' := (none, [(8, s)])) lk_0_88 pd_21 rfl oid_0 rfl rfl rfl rfl rfl rfl ⟨rfl, rfl, rfl, rfl, rfl⟩ d23_3 (c_k_mappedFrame v1 v2 s _ e1) ?_
  refine go_istoreN (pc := 6) (L' := [.val (.ref 1), .val (.int v1), .val (.int v2), .val (.int r3)]) d23_6 rfl (go_iloadN (pc := 7) d23_7 rfl ?_)
  by_cases h2 : r3 < 0
  · replace hf := (if_pos h2).symm.trans hf
    refine go_ifN (pc := 8) d23_8 (XT.i0_ge_f h2) ?_
    refine go_iconst (pc := 11) d23_11 ci_m1 ?_
    cases hf
    exact go_iret (pc := 12) rfl d23_12
  · replace hf := (if_neg h2).symm.trans hf
    refine go_ifY (pc := 8) (pc' := 13) d23_8 (XT.i0_ge_t h2) j_8_5 ?_
    refine go_iloadN (pc := 13) d23_13 rfl ?_
    cases hf
    exact go_iret (pc := 14) rfl d23_14
theorem c_k_frameOf (v1 : Int32) (v2 : Int32) (s : S) (o : Int32) (hf : k_frameOf v1 v2 s = some o) : Call PP m23 [.ref 1, .int v1, .int v2] (none, [(8, s)]) (some (.int o), (none, [(8, s)])) := call_of_go pl_0 rfl (fun h => nomatch h) (k_frameOf_ok v1 v2 s   _ hf)
set_option maxRecDepth 65536 in
set_option maxHeartbeats 4000000 in
theorem k_pin_ok  : ∀ (v1 : Int32) (s : S)  (o : Int32 × S), k_pin v1 s = some o → Go PP m24 0 [.val (.ref 1), .val (.int v1)] [] (none, [(8, s)]) (some (.int o.1), (none, [(8, o.2)])) := by
  intro v1 s o hf
  unfold k_pin at hf
  refine go_aloadN (pc := 0) d24_0 rfl (go_iloadN (pc := 1) d24_1 rfl ?_)
  refine go_priv (pc := 2) (i := 0) (as := [.int v1]) (rest := []) (w' := (none, [(8, s)])) lk_0_62 pd_10 rfl oid_0 rfl rfl rfl rfl rfl rfl ⟨rfl, rfl, rfl, rfl, rfl⟩ d24_2 (c_k_frameInRange v1 s) ?_
  by_cases h1 : (k_frameInRange v1 s) = 0
  · replace hf := (if_pos h1).symm.trans hf
    refine go_ifN (pc := 5) d24_5 (XT.i0_ne_f h1) ?_
    refine go_iconst (pc := 8) d24_8 ci_0 ?_
    cases hf
    exact go_zret (pc := 9) rfl d24_9 (show (0 : Int32) = nar .boolean (0 : Int32) by decide)
  · replace hf := (if_neg h1).symm.trans hf
    refine go_ifY (pc := 5) (pc' := 10) d24_5 (XT.i0_ne_t h1) j_5_5 ?_
    refine go_aloadN (pc := 10) d24_10 rfl (go_getA (pc := 11) fa_7 hm_24 d24_11 rfl (go_iloadN (pc := 14) d24_14 rfl ?_))
    obtain ⟨a15, e2, hf⟩ := Option.bind_eq_some_iff.mp hf
    refine go_baload (pc := 15) (q := 0) ar_0 (by decide) rfl e2 d24_15 ?_
    refine go_iconst (pc := 16) d24_16 ci_1 ?_
    by_cases h3 : a15 = (1 : Int32)
    · replace hf := (if_pos h3).symm.trans hf
      refine go_icY (pc := 17) (pc' := 22) d24_17 (XT.ii_eq_t h3) j_17_5 ?_
      refine go_aloadN (pc := 22) d24_22 rfl (go_iloadN (pc := 23) d24_23 rfl (go_iconst (pc := 24) d24_24 ci_2 ?_))
      obtain ⟨r25, e4, hf⟩ := Option.bind_eq_some_iff.mp hf
      refine go_priv (pc := 25) (i := 0) (as := [.int v1, .int (2 : Int32)]) (rest := []) (w' := (none, [(8, r25)])) lk_0_69 pd_12 rfl oid_0 rfl rfl rfl rfl rfl rfl ⟨rfl, rfl, rfl, rfl, rfl⟩ d24_25 (c_k_enterState v1 (2 : Int32) s _ e4) ?_
      refine go_iconst (pc := 28) d24_28 ci_1 ?_
      cases hf
      exact go_zret (pc := 29) rfl d24_29 (show (1 : Int32) = nar .boolean (1 : Int32) by decide)
    · replace hf := (if_neg h3).symm.trans hf
      refine go_icN (pc := 17) d24_17 (XT.ii_eq_f h3) ?_
      refine go_iconst (pc := 20) d24_20 ci_0 ?_
      cases hf
      exact go_zret (pc := 21) rfl d24_21 (show (0 : Int32) = nar .boolean (0 : Int32) by decide)
theorem c_k_pin (v1 : Int32) (s : S) (o : Int32 × S) (hf : k_pin v1 s = some o) : Call PP m24 [.ref 1, .int v1] (none, [(8, s)]) (some (.int o.1), (none, [(8, o.2)])) := call_of_go pl_0 rfl (fun h => nomatch h) (k_pin_ok v1 s   _ hf)
set_option maxRecDepth 65536 in
set_option maxHeartbeats 4000000 in
theorem k_unpin_ok  : ∀ (v1 : Int32) (s : S)  (o : Int32 × S), k_unpin v1 s = some o → Go PP m25 0 [.val (.ref 1), .val (.int v1)] [] (none, [(8, s)]) (some (.int o.1), (none, [(8, o.2)])) := by
  intro v1 s o hf
  unfold k_unpin at hf
  refine go_aloadN (pc := 0) d25_0 rfl (go_iloadN (pc := 1) d25_1 rfl ?_)
  refine go_priv (pc := 2) (i := 0) (as := [.int v1]) (rest := []) (w' := (none, [(8, s)])) lk_0_62 pd_10 rfl oid_0 rfl rfl rfl rfl rfl rfl ⟨rfl, rfl, rfl, rfl, rfl⟩ d25_2 (c_k_frameInRange v1 s) ?_
  by_cases h1 : (k_frameInRange v1 s) = 0
  · replace hf := (if_pos h1).symm.trans hf
    refine go_ifN (pc := 5) d25_5 (XT.i0_ne_f h1) ?_
    refine go_iconst (pc := 8) d25_8 ci_0 ?_
    cases hf
    exact go_zret (pc := 9) rfl d25_9 (show (0 : Int32) = nar .boolean (0 : Int32) by decide)
  · replace hf := (if_neg h1).symm.trans hf
    refine go_ifY (pc := 5) (pc' := 10) d25_5 (XT.i0_ne_t h1) j_5_5 ?_
    refine go_aloadN (pc := 10) d25_10 rfl (go_getA (pc := 11) fa_7 hm_25 d25_11 rfl (go_iloadN (pc := 14) d25_14 rfl ?_))
    obtain ⟨a15, e2, hf⟩ := Option.bind_eq_some_iff.mp hf
    refine go_baload (pc := 15) (q := 0) ar_0 (by decide) rfl e2 d25_15 ?_
    refine go_iconst (pc := 16) d25_16 ci_2 ?_
    by_cases h3 : a15 = (2 : Int32)
    · replace hf := (if_pos h3).symm.trans hf
      refine go_icY (pc := 17) (pc' := 22) d25_17 (XT.ii_eq_t h3) j_17_5 ?_
      refine go_aloadN (pc := 22) d25_22 rfl (go_iloadN (pc := 23) d25_23 rfl (go_iconst (pc := 24) d25_24 ci_1 ?_))
      obtain ⟨r25, e4, hf⟩ := Option.bind_eq_some_iff.mp hf
      refine go_priv (pc := 25) (i := 0) (as := [.int v1, .int (1 : Int32)]) (rest := []) (w' := (none, [(8, r25)])) lk_0_69 pd_12 rfl oid_0 rfl rfl rfl rfl rfl rfl ⟨rfl, rfl, rfl, rfl, rfl⟩ d25_25 (c_k_enterState v1 (1 : Int32) s _ e4) ?_
      refine go_iconst (pc := 28) d25_28 ci_1 ?_
      cases hf
      exact go_zret (pc := 29) rfl d25_29 (show (1 : Int32) = nar .boolean (1 : Int32) by decide)
    · replace hf := (if_neg h3).symm.trans hf
      refine go_icN (pc := 17) d25_17 (XT.ii_eq_f h3) ?_
      refine go_iconst (pc := 20) d25_20 ci_0 ?_
      cases hf
      exact go_zret (pc := 21) rfl d25_21 (show (0 : Int32) = nar .boolean (0 : Int32) by decide)
theorem c_k_unpin (v1 : Int32) (s : S) (o : Int32 × S) (hf : k_unpin v1 s = some o) : Call PP m25 [.ref 1, .int v1] (none, [(8, s)]) (some (.int o.1), (none, [(8, o.2)])) := call_of_go pl_0 rfl (fun h => nomatch h) (k_unpin_ok v1 s   _ hf)
set_option maxRecDepth 65536 in
set_option maxHeartbeats 4000000 in
theorem k_release_ok  : ∀ (v1 : Int32) (s : S)  (o : Int32 × S), k_release v1 s = some o → Go PP m26 0 [.val (.ref 1), .val (.int v1)] [] (none, [(8, s)]) (some (.int o.1), (none, [(8, o.2)])) := by
  intro v1 s o hf
  unfold k_release at hf
  refine go_aloadN (pc := 0) d26_0 rfl (go_iloadN (pc := 1) d26_1 rfl ?_)
  refine go_priv (pc := 2) (i := 0) (as := [.int v1]) (rest := []) (w' := (none, [(8, s)])) lk_0_62 pd_10 rfl oid_0 rfl rfl rfl rfl rfl rfl ⟨rfl, rfl, rfl, rfl, rfl⟩ d26_2 (c_k_frameInRange v1 s) ?_
  by_cases h1 : (k_frameInRange v1 s) = 0
  · replace hf := (if_pos h1).symm.trans hf
    refine go_ifN (pc := 5) d26_5 (XT.i0_ne_f h1) ?_
    refine go_iconst (pc := 8) d26_8 ci_0 ?_
    cases hf
    exact go_zret (pc := 9) rfl d26_9 (show (0 : Int32) = nar .boolean (0 : Int32) by decide)
  · replace hf := (if_neg h1).symm.trans hf
    refine go_ifY (pc := 5) (pc' := 10) d26_5 (XT.i0_ne_t h1) j_5_5 ?_
    refine go_aloadN (pc := 10) d26_10 rfl (go_getA (pc := 11) fa_7 hm_26 d26_11 rfl (go_iloadN (pc := 14) d26_14 rfl ?_))
    obtain ⟨a15, e2, hf⟩ := Option.bind_eq_some_iff.mp hf
    refine go_baload (pc := 15) (q := 0) ar_0 (by decide) rfl e2 d26_15 ?_
    refine go_iconst (pc := 16) d26_16 ci_3 ?_
    by_cases h3 : a15 = (3 : Int32)
    · replace hf := (if_pos h3).symm.trans hf
      refine go_icY (pc := 17) (pc' := 22) d26_17 (XT.ii_eq_t h3) j_17_5 ?_
      refine go_aloadN (pc := 22) d26_22 rfl (go_iloadN (pc := 23) d26_23 rfl ?_)
      obtain ⟨r24, e4, hf⟩ := Option.bind_eq_some_iff.mp hf
      refine go_priv (pc := 24) (i := 0) (as := [.int v1]) (rest := []) (w' := (none, [(8, r24)])) lk_0_84 pd_19 rfl oid_0 rfl rfl rfl rfl rfl rfl ⟨rfl, rfl, rfl, rfl, rfl⟩ d26_24 (c_k_freeFrame v1 s _ e4) ?_
      refine go_iconst (pc := 27) d26_27 ci_1 ?_
      cases hf
      exact go_zret (pc := 28) rfl d26_28 (show (1 : Int32) = nar .boolean (1 : Int32) by decide)
    · replace hf := (if_neg h3).symm.trans hf
      refine go_icN (pc := 17) d26_17 (XT.ii_eq_f h3) ?_
      refine go_iconst (pc := 20) d26_20 ci_0 ?_
      cases hf
      exact go_zret (pc := 21) rfl d26_21 (show (0 : Int32) = nar .boolean (0 : Int32) by decide)
theorem c_k_release (v1 : Int32) (s : S) (o : Int32 × S) (hf : k_release v1 s = some o) : Call PP m26 [.ref 1, .int v1] (none, [(8, s)]) (some (.int o.1), (none, [(8, o.2)])) := call_of_go pl_0 rfl (fun h => nomatch h) (k_release_ok v1 s   _ hf)
set_option maxRecDepth 65536 in
set_option maxHeartbeats 4000000 in
theorem k_alignMask_ok  {s : S} : ∀ (v1 : Int32)   (o : Int64), k_alignMask v1 = o → Go PP m27 0 [.val (.ref 1), .val (.int v1)] [] (none, [(8, s)]) (some (.long o), (none, [(8, s)])) := by
  intro v1 o hf
  unfold k_alignMask at hf
  refine go_iloadN (pc := 0) d27_0 rfl ?_
  by_cases h1 : v1 = 0
  · replace hf := (if_pos h1).symm.trans hf
    refine go_ifN (pc := 1) d27_1 (XT.i0_ne_f h1) ?_
    refine go_ldc2 (pc := 4) (u := (-1 : Int64)) d27_4 (List.mem_of_getElem? (i := 102) rfl) ?_
    cases hf
    exact go_lret (pc := 7) rfl d27_7
  · replace hf := (if_neg h1).symm.trans hf
    refine go_ifY (pc := 1) (pc' := 8) d27_1 (XT.i0_ne_t h1) j_1_7 ?_
    refine go_iloadN (pc := 8) d27_8 rfl (go_iconst (pc := 9) d27_9 ci_1 ?_)
    by_cases h2 : v1 = (1 : Int32)
    · replace hf := (if_pos h2).symm.trans hf
      refine go_icN (pc := 10) d27_10 (XT.ii_ne_f h2) ?_
      refine go_ldc2 (pc := 13) (u := (6148914691236517205 : Int64)) d27_13 (List.mem_of_getElem? (i := 175) rfl) ?_
      cases hf
      exact go_lret (pc := 16) rfl d27_16
    · replace hf := (if_neg h2).symm.trans hf
      refine go_icY (pc := 10) (pc' := 17) d27_10 (XT.ii_ne_t h2) j_10_7 ?_
      refine go_iloadN (pc := 17) d27_17 rfl (go_iconst (pc := 18) d27_18 ci_2 ?_)
      by_cases h3 : v1 = (2 : Int32)
      · replace hf := (if_pos h3).symm.trans hf
        refine go_icN (pc := 19) d27_19 (XT.ii_ne_f h3) ?_
        refine go_ldc2 (pc := 22) (u := (1229782938247303441 : Int64)) d27_22 (List.mem_of_getElem? (i := 230) rfl) ?_
        cases hf
        exact go_lret (pc := 25) rfl d27_25
      · replace hf := (if_neg h3).symm.trans hf
        refine go_icY (pc := 19) (pc' := 26) d27_19 (XT.ii_ne_t h3) j_19_7 ?_
        refine go_iloadN (pc := 26) d27_26 rfl (go_iconst (pc := 27) d27_27 ci_3 ?_)
        by_cases h4 : v1 = (3 : Int32)
        · replace hf := (if_pos h4).symm.trans hf
          refine go_icN (pc := 28) d27_28 (XT.ii_ne_f h4) ?_
          refine go_ldc2 (pc := 31) (u := (72340172838076673 : Int64)) d27_31 (List.mem_of_getElem? (i := 178) rfl) ?_
          cases hf
          exact go_lret (pc := 34) rfl d27_34
        · replace hf := (if_neg h4).symm.trans hf
          refine go_icY (pc := 28) (pc' := 35) d27_28 (XT.ii_ne_t h4) j_28_7 ?_
          refine go_iloadN (pc := 35) d27_35 rfl (go_iconst (pc := 36) d27_36 ci_4 ?_)
          by_cases h5 : v1 = (4 : Int32)
          · replace hf := (if_pos h5).symm.trans hf
            refine go_icN (pc := 37) d27_37 (XT.ii_ne_f h5) ?_
            refine go_ldc2 (pc := 40) (u := (281479271743489 : Int64)) d27_40 (List.mem_of_getElem? (i := 231) rfl) ?_
            cases hf
            exact go_lret (pc := 43) rfl d27_43
          · replace hf := (if_neg h5).symm.trans hf
            refine go_icY (pc := 37) (pc' := 44) d27_37 (XT.ii_ne_t h5) j_37_7 ?_
            refine go_iloadN (pc := 44) d27_44 rfl (go_iconst (pc := 45) d27_45 ci_5 ?_)
            by_cases h6 : v1 = (5 : Int32)
            · replace hf := (if_pos h6).symm.trans hf
              refine go_icN (pc := 46) d27_46 (XT.ii_ne_f h6) ?_
              refine go_ldc2 (pc := 49) (u := (4294967297 : Int64)) d27_49 (List.mem_of_getElem? (i := 232) rfl) ?_
              cases hf
              exact go_lret (pc := 52) rfl d27_52
            · replace hf := (if_neg h6).symm.trans hf
              refine go_icY (pc := 46) (pc' := 53) d27_46 (XT.ii_ne_t h6) j_46_7 ?_
              refine go_iloadN (pc := 53) d27_53 rfl (go_bipush (pc := 54) d27_54 cb_6 ?_)
              by_cases h7 : v1 = (6 : Int32)
              · replace hf := (if_pos h7).symm.trans hf
                refine go_icN (pc := 56) d27_56 (XT.ii_ne_f h7) ?_
                refine go_lconst (pc := 59) d27_59 cl_1 ?_
                cases hf
                exact go_lret (pc := 60) rfl d27_60
              · replace hf := (if_neg h7).symm.trans hf
                refine go_icY (pc := 56) (pc' := 61) d27_56 (XT.ii_ne_t h7) j_56_5 ?_
                refine go_lconst (pc := 61) d27_61 cl_0 ?_
                cases hf
                exact go_lret (pc := 62) rfl d27_62
theorem c_k_alignMask (v1 : Int32) (s : S) : Call PP m27 [.ref 1, .int v1] (none, [(8, s)]) (some (.long (k_alignMask v1)), (none, [(8, s)])) := call_of_go pl_0 rfl (fun h => nomatch h) (k_alignMask_ok v1   _ rfl)
set_option maxRecDepth 65536 in
set_option maxHeartbeats 4000000 in
theorem k_refreshRuns_65_ok  : ∀  (s : S) (x1 : Slot) (x2 : Slot) (x3 : Slot) (x4 : Slot) (x5 : Slot) (x6 : Slot) (hx1 : k2 x1 x2) (hx3 : k1 x3) (hx4 : k1 x4) (hx5 : k2 x5 x6) (o : S), k_refreshRuns_65 s = some o → Go PP m28 65 [.val (.ref 1), x1, x2, x3, x4, x5, x6] [] (none, [(8, s)]) (none, (none, [(8, o)])) := by
  intro s x1 x2 x3 x4 x5 x6 hx1 hx3 hx4 hx5 o hf
  unfold k_refreshRuns_65 at hf
  refine go_aloadN (pc := 65) d28_65 rfl (go_iconst (pc := 66) d28_66 ci_0 (go_putZ (pc := 67) fs_141 hm_28 (wr_6 _) hn_28 (by decide) d28_67 ?_))
  cases hf
  exact go_ret (pc := 70) rfl d28_70
set_option maxRecDepth 65536 in
set_option maxHeartbeats 4000000 in
theorem k_refreshRuns_22_ok  : ∀ (n : Nat) (v1 : Int64) (v3 : Int32) (s : S) (x4 : Slot) (x5 : Slot) (x6 : Slot) (hx4 : k1 x4) (hx5 : k2 x5 x6) (o : S), k_refreshRuns_22 n v1 v3 s = some o → Go PP m28 22 [.val (.ref 1), .val (.long v1), .second, .val (.int v3), x4, x5, x6] [] (none, [(8, s)]) (none, (none, [(8, o)])) := by
  intro n
  induction n with
  | zero => intro v1 v3 s x4 x5 x6 hx4 hx5 o hf; exact nomatch hf
  | succ n ih =>
    intro v1 v3 s x4 x5 x6 hx4 hx5 o hf
    unfold k_refreshRuns_22 at hf
    refine go_iloadN (pc := 22) d28_22 rfl (go_bipush (pc := 23) d28_23 cb_6 ?_)
    by_cases h1 : (6 : Int32) < v3
    · replace hf := (if_pos h1).symm.trans hf
      refine go_icY (pc := 25) (pc' := 65) d28_25 (XT.ii_gt_t h1) j_25_40 ?_
      exact k_refreshRuns_65_ok s (.val (.long v1)) .second (.val (.int v3)) x4 x5 x6 (Or.inr ⟨_, rfl, rfl⟩) (Or.inr ⟨_, rfl, rfl⟩) hx4 hx5 _ hf
    · replace hf := (if_neg h1).symm.trans hf
      refine go_icN (pc := 25) d28_25 (XT.ii_gt_f h1) ?_
      refine go_iconst (pc := 28) d28_28 ci_1 (go_iloadN (pc := 29) d28_29 rfl (go_iconst (pc := 30) d28_30 ci_1 (go_isub (pc := 31) d28_31 (go_ishl (pc := 32) d28_32 (go_istore (pc := 33) (L' := [.val (.ref 1), .val (.long v1), .second, .val (.int v3), .val (.int ((1 : Int32) <<< ((v3 - (1 : Int32)) &&& 31))), x5, x6]) d28_33 (stx rfl hx4 rfl) (go_aloadN (pc := 35) d28_35 rfl (go_iloadN (pc := 36) d28_36 rfl ?_)))))))
      refine go_priv (pc := 37) (i := 0) (as := [.int v3]) (rest := []) (w' := (none, [(8, s)])) lk_0_159 pd_27 rfl oid_0 rfl rfl rfl rfl rfl rfl ⟨rfl, rfl, rfl, rfl, rfl⟩ d28_37 (c_k_alignMask v3 s) ?_
      refine go_lstore (pc := 40) (L' := [.val (.ref 1), .val (.long v1), .second, .val (.int v3), .val (.int ((1 : Int32) <<< ((v3 - (1 : Int32)) &&& 31))), .val (.long (k_alignMask v3)), .second]) d28_40 (stx2 rfl rfl hx5) (go_lloadN (pc := 42) d28_42 rfl (go_lloadN (pc := 43) d28_43 rfl (go_iload (pc := 44) d28_44 rfl (go_lushr (pc := 46) d28_46 (go_land (pc := 47) d28_47 (go_lload (pc := 48) d28_48 rfl (go_land (pc := 50) d28_50 ?_)))))))
      refine go_lstoreN (pc := 51) (L' := [.val (.ref 1), .val (.long ((v1 &&& (XT.ushrL v1 ((1 : Int32) <<< ((v3 - (1 : Int32)) &&& 31)))) &&& (k_alignMask v3))), .second, .val (.int v3), .val (.int ((1 : Int32) <<< ((v3 - (1 : Int32)) &&& 31))), .val (.long (k_alignMask v3)), .second]) d28_51 rfl (go_aloadN (pc := 52) d28_52 rfl (go_getA (pc := 53) fa_32 hm_28 d28_53 rfl (go_iloadN (pc := 56) d28_56 rfl (go_lloadN (pc := 57) d28_57 rfl ?_))))
      obtain ⟨a58, e2, hf⟩ := Option.bind_eq_some_iff.mp hf
      refine go_lastore (pc := 58) (q := 7) ar_7 rfl hn_28 e2 d28_58 ?_
      refine go_iinc (pc := 59) (L' := [.val (.ref 1), .val (.long ((v1 &&& (XT.ushrL v1 ((1 : Int32) <<< ((v3 - (1 : Int32)) &&& 31)))) &&& (k_alignMask v3))), .second, .val (.int (v3 + (1 : Int32))), .val (.int ((1 : Int32) <<< ((v3 - (1 : Int32)) &&& 31))), .val (.long (k_alignMask v3)), .second]) d28_59 rfl ci_1 rfl (go_goto (pc := 62) (pc' := 22) d28_62 j_62_m40 ?_)
      exact ih ((v1 &&& (XT.ushrL v1 ((1 : Int32) <<< ((v3 - (1 : Int32)) &&& 31)))) &&& (k_alignMask v3)) (v3 + (1 : Int32)) (sB s 7 a58) (.val (.int ((1 : Int32) <<< ((v3 - (1 : Int32)) &&& 31)))) (.val (.long (k_alignMask v3))) .second (Or.inr ⟨_, rfl, rfl⟩) (Or.inr ⟨_, rfl, rfl⟩) _ hf
set_option maxRecDepth 65536 in
set_option maxHeartbeats 4000000 in
theorem k_refreshRuns_ok  : ∀  (s : S)  (o : S), k_refreshRuns s = some o → Go PP m28 0 [.val (.ref 1), .unset, .unset, .unset, .unset, .unset, .unset] [] (none, [(8, s)]) (none, (none, [(8, o)])) := by
  intro s o hf
  unfold k_refreshRuns at hf
  refine go_aloadN (pc := 0) d28_0 rfl (go_getZ (pc := 1) fs_141 hm_28 d28_1 ?_)
  by_cases h1 : (gI s 6) = 0
  · replace hf := (if_pos h1).symm.trans hf
    refine go_ifN (pc := 4) d28_4 (XT.i0_ne_f h1) ?_
    cases hf
    exact go_ret (pc := 7) rfl d28_7
  · replace hf := (if_neg h1).symm.trans hf
    refine go_ifY (pc := 4) (pc' := 8) d28_4 (XT.i0_ne_t h1) j_4_4 ?_
    refine go_aloadN (pc := 8) d28_8 rfl (go_getJ (pc := 9) fs_54 hm_28 d28_9 (go_lstoreN (pc := 12) (L' := [.val (.ref 1), .val (.long (gL s 2)), .second, .unset, .unset, .unset, .unset]) d28_12 rfl (go_aloadN (pc := 13) d28_13 rfl (go_getA (pc := 14) fa_32 hm_28 d28_14 rfl (go_iconst (pc := 17) d28_17 ci_0 (go_lloadN (pc := 18) d28_18 rfl ?_))))))
    obtain ⟨a19, e2, hf⟩ := Option.bind_eq_some_iff.mp hf
    refine go_lastore (pc := 19) (q := 7) ar_7 rfl hn_28 e2 d28_19 ?_
    refine go_iconst (pc := 20) d28_20 ci_1 (go_istoreN (pc := 21) (L' := [.val (.ref 1), .val (.long (gL s 2)), .second, .val (.int (1 : Int32)), .unset, .unset, .unset]) d28_21 rfl ?_)
    exact k_refreshRuns_22_ok BIG (gL s 2) (1 : Int32) (sB s 7 a19) .unset .unset .unset (Or.inl rfl) (Or.inl ⟨rfl, rfl⟩) _ hf
theorem c_k_refreshRuns (s : S) (o : S) (hf : k_refreshRuns s = some o) : Call PP m28 [.ref 1] (none, [(8, s)]) (none, (none, [(8, o)])) := call_of_go pl_0 rfl (fun _ => rfl) (k_refreshRuns_ok s   _ hf)
set_option maxRecDepth 65536 in
set_option maxHeartbeats 4000000 in
theorem k_freeRunsOfOrder_10_ok  : ∀  (s : S) (x1 : Slot) (hx1 : k1 x1) (o : Int64 × S), k_freeRunsOfOrder_10 s = some o → Go PP m29 10 [.val (.ref 1), x1] [] (none, [(8, s)]) (some (.long o.1), (none, [(8, o.2)])) := by
  intro s x1 hx1 o hf
  unfold k_freeRunsOfOrder_10 at hf
  refine go_lconst (pc := 10) d29_10 cl_0 ?_
  cases hf
  exact go_lret (pc := 11) rfl d29_11
set_option maxRecDepth 65536 in
set_option maxHeartbeats 4000000 in
theorem k_freeRunsOfOrder_ok  : ∀ (v1 : Int32) (s : S)  (o : Int64 × S), k_freeRunsOfOrder v1 s = some o → Go PP m29 0 [.val (.ref 1), .val (.int v1)] [] (none, [(8, s)]) (some (.long o.1), (none, [(8, o.2)])) := by
  intro v1 s o hf
  unfold k_freeRunsOfOrder at hf
  refine go_iloadN (pc := 0) d29_0 rfl ?_
  by_cases h1 : v1 < 0
  · replace hf := (if_pos h1).symm.trans hf
    refine go_ifY (pc := 1) (pc' := 10) d29_1 (XT.i0_lt_t h1) j_1_9 ?_
    exact k_freeRunsOfOrder_10_ok s (.val (.int v1)) (Or.inr ⟨_, rfl, rfl⟩) _ hf
  · replace hf := (if_neg h1).symm.trans hf
    refine go_ifN (pc := 1) d29_1 (XT.i0_lt_f h1) ?_
    refine go_iloadN (pc := 4) d29_4 rfl (go_bipush (pc := 5) d29_5 cb_6 ?_)
    by_cases h2 : (6 : Int32) < v1
    · replace hf := (if_pos h2).symm.trans hf
      refine go_icN (pc := 7) d29_7 (XT.ii_le_f h2) ?_
      exact k_freeRunsOfOrder_10_ok s (.val (.int v1)) (Or.inr ⟨_, rfl, rfl⟩) _ hf
    · replace hf := (if_neg h2).symm.trans hf
      refine go_icY (pc := 7) (pc' := 12) d29_7 (XT.ii_le_t h2) j_7_5 ?_
      refine go_aloadN (pc := 12) d29_12 rfl ?_
      obtain ⟨r13, e3, hf⟩ := Option.bind_eq_some_iff.mp hf
      refine go_priv (pc := 13) (i := 0) (as := []) (rest := []) (w' := (none, [(8, r13)])) lk_0_126 pd_28 rfl oid_0 rfl rfl rfl rfl rfl rfl ⟨rfl, rfl, rfl, rfl, rfl⟩ d29_13 (c_k_refreshRuns s _ e3) ?_
      refine go_aloadN (pc := 16) d29_16 rfl (go_getA (pc := 17) fa_32 hm_29 d29_17 rfl (go_iloadN (pc := 20) d29_20 rfl ?_))
      obtain ⟨a21, e4, hf⟩ := Option.bind_eq_some_iff.mp hf
      refine go_laload (pc := 21) (q := 7) ar_7 rfl e4 d29_21 ?_
      cases hf
      exact go_lret (pc := 22) rfl d29_22
theorem c_k_freeRunsOfOrder (v1 : Int32) (s : S) (o : Int64 × S) (hf : k_freeRunsOfOrder v1 s = some o) : Call PP m29 [.ref 1, .int v1] (none, [(8, s)]) (some (.long o.1), (none, [(8, o.2)])) := call_of_go pl_0 rfl (fun h => nomatch h) (k_freeRunsOfOrder_ok v1 s   _ hf)
set_option maxRecDepth 65536 in
set_option maxHeartbeats 4000000 in
theorem k_reserveFrame_ok  : ∀ (v1 : Int32) (s : S)  (o : S), k_reserveFrame v1 s = some o → Go PP m30 0 [.val (.ref 1), .val (.int v1)] [] (none, [(8, s)]) (none, (none, [(8, o)])) := by
  intro v1 s o hf
  unfold k_reserveFrame at hf
  refine go_aloadN (pc := 0) d30_0 rfl (go_iloadN (pc := 1) d30_1 rfl ?_)
  refine go_priv (pc := 2) (i := 0) (as := [.int v1]) (rest := []) (w' := (none, [(8, s)])) lk_0_62 pd_10 rfl oid_0 rfl rfl rfl rfl rfl rfl ⟨rfl, rfl, rfl, rfl, rfl⟩ d30_2 (c_k_frameInRange v1 s) ?_
  by_cases h1 : (k_frameInRange v1 s) = 0
  · replace hf := (if_pos h1).symm.trans hf
    refine go_ifN (pc := 5) d30_5 (XT.i0_ne_f h1) ?_
    cases hf
    exact go_ret (pc := 8) rfl d30_8
  · replace hf := (if_neg h1).symm.trans hf
    refine go_ifY (pc := 5) (pc' := 9) d30_5 (XT.i0_ne_t h1) j_5_4 ?_
    refine go_aloadN (pc := 9) d30_9 rfl (go_getA (pc := 10) fa_13 hm_30 d30_10 rfl (go_iloadN (pc := 13) d30_13 rfl (go_iconst (pc := 14) d30_14 ci_0 ?_)))
    obtain ⟨a15, e2, hf⟩ := Option.bind_eq_some_iff.mp hf
    refine go_iastore (pc := 15) (q := 1) ar_1 rfl hn_30 e2 d30_15 ?_
    refine go_aloadN (pc := 16) d30_16 rfl (go_getA (pc := 17) fa_17 hm_30 d30_17 rfl (go_iloadN (pc := 20) d30_20 rfl (go_iconst (pc := 21) d30_21 ci_0 ?_)))
    obtain ⟨a22, e3, hf⟩ := Option.bind_eq_some_iff.mp hf
    refine go_iastore (pc := 22) (q := 2) ar_2 rfl hn_30 e3 d30_22 ?_
    refine go_aloadN (pc := 23) d30_23 rfl (go_getA (pc := 24) fa_23 hm_30 d30_24 rfl (go_iloadN (pc := 27) d30_27 rfl (go_iconst (pc := 28) d30_28 ci_m1 ?_)))
    obtain ⟨a29, e4, hf⟩ := Option.bind_eq_some_iff.mp hf
    refine go_iastore (pc := 29) (q := 4) ar_4 rfl hn_30 e4 d30_29 ?_
    refine go_aloadN (pc := 30) d30_30 rfl (go_iloadN (pc := 31) d30_31 rfl (go_iconst (pc := 32) d30_32 ci_3 ?_))
    obtain ⟨r33, e5, hf⟩ := Option.bind_eq_some_iff.mp hf
    refine go_priv (pc := 33) (i := 0) (as := [.int v1, .int (3 : Int32)]) (rest := []) (w' := (none, [(8, r33)])) lk_0_69 pd_12 rfl oid_0 rfl rfl rfl rfl rfl rfl ⟨rfl, rfl, rfl, rfl, rfl⟩ d30_33 (c_k_enterState v1 (3 : Int32) (sA (sA (sA s 1 a15) 2 a22) 4 a29) _ e5) ?_
    cases hf
    exact go_ret (pc := 36) rfl d30_36
theorem c_k_reserveFrame (v1 : Int32) (s : S) (o : S) (hf : k_reserveFrame v1 s = some o) : Call PP m30 [.ref 1, .int v1] (none, [(8, s)]) (none, (none, [(8, o)])) := call_of_go pl_0 rfl (fun _ => rfl) (k_reserveFrame_ok v1 s   _ hf)
set_option maxRecDepth 65536 in
set_option maxHeartbeats 4000000 in
theorem k_reserveRun_7_ok  : ∀ (n : Nat) (v1 : Int32) (v3 : Int32) (v4 : Int32) (s : S) (x2 : Slot) (hx2 : k1 x2) (o : S), k_reserveRun_7 n v1 v3 v4 s = some o → Go PP m31 7 [.val (.ref 1), .val (.int v1), x2, .val (.int v3), .val (.int v4)] [] (none, [(8, s)]) (none, (none, [(8, o)])) := by
  intro n
  induction n with
  | zero => intro v1 v3 v4 s x2 hx2 o hf; exact nomatch hf
  | succ n ih =>
    intro v1 v3 v4 s x2 hx2 o hf
    unfold k_reserveRun_7 at hf
    refine go_iload (pc := 7) d31_7 rfl (go_iloadN (pc := 9) d31_9 rfl ?_)
    by_cases h1 : v4 < v3
    · replace hf := (if_pos h1).symm.trans hf
      refine go_icN (pc := 10) d31_10 (XT.ii_ge_f h1) ?_
      refine go_iload (pc := 13) d31_13 rfl (go_bipush (pc := 15) d31_15 cb_64 ?_)
      by_cases h2 : v4 < (64 : Int32)
      · replace hf := (if_pos h2).symm.trans hf
        refine go_icN (pc := 17) d31_17 (XT.ii_ge_f h2) ?_
        refine go_aloadN (pc := 20) d31_20 rfl (go_iloadN (pc := 21) d31_21 rfl (go_iload (pc := 22) d31_22 rfl (go_iadd (pc := 24) d31_24 ?_)))
        obtain ⟨r25, e3, hf⟩ := Option.bind_eq_some_iff.mp hf
        refine go_priv (pc := 25) (i := 0) (as := [.int (v1 + v4)]) (rest := []) (w' := (none, [(8, r25)])) lk_0_150 pd_30 rfl oid_0 rfl rfl rfl rfl rfl rfl ⟨rfl, rfl, rfl, rfl, rfl⟩ d31_25 (c_k_reserveFrame (v1 + v4) s _ e3) ?_
        refine go_iinc (pc := 28) (L' := [.val (.ref 1), .val (.int v1), x2, .val (.int v3), .val (.int (v4 + (1 : Int32)))]) d31_28 rfl ci_1 rfl (go_goto (pc := 31) (pc' := 7) d31_31 j_31_m24 ?_)
        exact ih v1 v3 (v4 + (1 : Int32)) r25 x2 hx2 _ hf
      · replace hf := (if_neg h2).symm.trans hf
        refine go_icY (pc := 17) (pc' := 34) d31_17 (XT.ii_ge_t h2) j_17_17 ?_
        cases hf
        exact go_ret (pc := 34) rfl d31_34
    · replace hf := (if_neg h1).symm.trans hf
      refine go_icY (pc := 10) (pc' := 34) d31_10 (XT.ii_ge_t h1) j_10_24 ?_
      cases hf
      exact go_ret (pc := 34) rfl d31_34
set_option maxRecDepth 65536 in
set_option maxHeartbeats 4000000 in
theorem k_reserveRun_ok  : ∀ (v1 : Int32) (v2 : Int32) (s : S)  (o : S), k_reserveRun v1 v2 s = some o → Go PP m31 0 [.val (.ref 1), .val (.int v1), .val (.int v2), .unset, .unset] [] (none, [(8, s)]) (none, (none, [(8, o)])) := by
  intro v1 v2 s o hf
  unfold k_reserveRun at hf
  refine go_iconst (pc := 0) d31_0 ci_1 (go_iloadN (pc := 1) d31_1 rfl (go_ishl (pc := 2) d31_2 (go_istoreN (pc := 3) (L' := [.val (.ref 1), .val (.int v1), .val (.int v2), .val (.int ((1 : Int32) <<< (v2 &&& 31))), .unset]) d31_3 rfl (go_iconst (pc := 4) d31_4 ci_0 (go_istore (pc := 5) (L' := [.val (.ref 1), .val (.int v1), .val (.int v2), .val (.int ((1 : Int32) <<< (v2 &&& 31))), .val (.int (0 : Int32))]) d31_5 rfl ?_)))))
  exact k_reserveRun_7_ok BIG v1 ((1 : Int32) <<< (v2 &&& 31)) (0 : Int32) s (.val (.int v2)) (Or.inr ⟨_, rfl, rfl⟩) _ hf
theorem c_k_reserveRun (v1 : Int32) (v2 : Int32) (s : S) (o : S) (hf : k_reserveRun v1 v2 s = some o) : Call PP m31 [.ref 1, .int v1, .int v2] (none, [(8, s)]) (none, (none, [(8, o)])) := call_of_go pl_0 rfl (fun _ => rfl) (k_reserveRun_ok v1 v2 s   _ hf)
set_option maxRecDepth 65536 in
set_option maxHeartbeats 4000000 in
theorem k_allocBlock_ok  : ∀ (v1 : Int32) (s : S)  (o : Int32 × S), k_allocBlock v1 s = some o → Go PP m32 0 [.val (.ref 1), .val (.int v1), .unset, .unset, .unset] [] (none, [(8, s)]) (some (.int o.1), (none, [(8, o.2)])) := by
  intro v1 s o hf
  unfold k_allocBlock at hf
  refine go_iloadN (pc := 0) d32_0 rfl ?_
  by_cases h1 : v1 < 0
  · replace hf := (if_pos h1).symm.trans hf
    refine go_ifY (pc := 1) (pc' := 10) d32_1 (XT.i0_lt_t h1) j_1_9 ?_
    refine go_iconst (pc := 10) d32_10 ci_m1 ?_
    cases hf
    exact go_iret (pc := 11) rfl d32_11
  · replace hf := (if_neg h1).symm.trans hf
    refine go_ifN (pc := 1) d32_1 (XT.i0_lt_f h1) ?_
    refine go_iloadN (pc := 4) d32_4 rfl (go_bipush (pc := 5) d32_5 cb_6 ?_)
    by_cases h2 : (6 : Int32) < v1
    · replace hf := (if_pos h2).symm.trans hf
      refine go_icN (pc := 7) d32_7 (XT.ii_le_f h2) ?_
      refine go_iconst (pc := 10) d32_10 ci_m1 ?_
      cases hf
      exact go_iret (pc := 11) rfl d32_11
    · replace hf := (if_neg h2).symm.trans hf
      refine go_icY (pc := 7) (pc' := 12) d32_7 (XT.ii_le_t h2) j_7_5 ?_
      refine go_aloadN (pc := 12) d32_12 rfl (go_iloadN (pc := 13) d32_13 rfl ?_)
      obtain ⟨r14, e3, hf⟩ := Option.bind_eq_some_iff.mp hf
      refine go_priv (pc := 14) (i := 0) (as := [.int v1]) (rest := []) (w' := (none, [(8, r14.2)])) lk_0_91 pd_29 rfl oid_0 rfl rfl rfl rfl rfl rfl ⟨rfl, rfl, rfl, rfl, rfl⟩ d32_14 (c_k_freeRunsOfOrder v1 s _ e3) ?_
      refine go_lstoreN (pc := 17) (L' := [.val (.ref 1), .val (.int v1), .val (.long r14.1), .second, .unset]) d32_17 rfl (go_lloadN (pc := 18) d32_18 rfl (go_lconst (pc := 19) d32_19 cl_0 (go_lcmp (pc := 20) d32_20 ?_)))
      by_cases h4 : r14.1 = (0 : Int64)
      · replace hf := (if_pos h4).symm.trans hf
        refine go_ifN (pc := 21) d32_21 (XT.ll_ne_f h4) ?_
        refine go_bipush (pc := 24) d32_24 cb_m4 ?_
        cases hf
        exact go_iret (pc := 26) rfl d32_26
      · replace hf := (if_neg h4).symm.trans hf
        refine go_ifY (pc := 21) (pc' := 27) d32_21 (XT.ll_ne_t h4) j_21_6 ?_
        refine go_aloadN (pc := 27) d32_27 rfl (go_lloadN (pc := 28) d32_28 rfl ?_)
        refine go_priv (pc := 29) (i := 0) (as := [.long r14.1]) (rest := []) (w' := (none, [(8, r14.2)])) lk_0_58 pd_9 rfl oid_0 rfl rfl rfl rfl rfl rfl ⟨rfl, rfl, rfl, rfl, rfl⟩ d32_29 (c_k_lowestBit r14.1 r14.2) ?_
        refine go_istore (pc := 32) (L' := [.val (.ref 1), .val (.int v1), .val (.long r14.1), .second, .val (.int (k_lowestBit r14.1))]) d32_32 rfl (go_aloadN (pc := 34) d32_34 rfl (go_iload (pc := 35) d32_35 rfl ?_))
        refine go_priv (pc := 37) (i := 0) (as := [.int (k_lowestBit r14.1)]) (rest := []) (w' := (none, [(8, r14.2)])) lk_0_62 pd_10 rfl oid_0 rfl rfl rfl rfl rfl rfl ⟨rfl, rfl, rfl, rfl, rfl⟩ d32_37 (c_k_frameInRange (k_lowestBit r14.1) r14.2) ?_
        by_cases h5 : (k_frameInRange (k_lowestBit r14.1) r14.2) = 0
        · replace hf := (if_pos h5).symm.trans hf
          refine go_ifN (pc := 40) d32_40 (XT.i0_ne_f h5) ?_
          refine go_bipush (pc := 43) d32_43 cb_m4 ?_
          cases hf
          exact go_iret (pc := 45) rfl d32_45
        · replace hf := (if_neg h5).symm.trans hf
          refine go_ifY (pc := 40) (pc' := 46) d32_40 (XT.i0_ne_t h5) j_40_6 ?_
          refine go_aloadN (pc := 46) d32_46 rfl (go_iload (pc := 47) d32_47 rfl (go_iloadN (pc := 49) d32_49 rfl ?_))
          obtain ⟨r50, e6, hf⟩ := Option.bind_eq_some_iff.mp hf
          refine go_priv (pc := 50) (i := 0) (as := [.int (k_lowestBit r14.1), .int v1]) (rest := []) (w' := (none, [(8, r50)])) lk_0_95 pd_31 rfl oid_0 rfl rfl rfl rfl rfl rfl ⟨rfl, rfl, rfl, rfl, rfl⟩ d32_50 (c_k_reserveRun (k_lowestBit r14.1) v1 r14.2 _ e6) ?_
          refine go_iload (pc := 53) d32_53 rfl ?_
          cases hf
          exact go_iret (pc := 55) rfl d32_55
theorem c_k_allocBlock (v1 : Int32) (s : S) (o : Int32 × S) (hf : k_allocBlock v1 s = some o) : Call PP m32 [.ref 1, .int v1] (none, [(8, s)]) (some (.int o.1), (none, [(8, o.2)])) := call_of_go pl_0 rfl (fun h => nomatch h) (k_allocBlock_ok v1 s   _ hf)
set_option maxRecDepth 65536 in
set_option maxHeartbeats 4000000 in
theorem k_rangeMask_ok  {s : S} : ∀ (v1 : Int32) (v2 : Int32)   (o : Int64), k_rangeMask v1 v2 = o → Go PP m33 0 [.val (.ref 1), .val (.int v1), .val (.int v2), .unset, .unset, .unset, .unset] [] (none, [(8, s)]) (some (.long o), (none, [(8, s)])) := by
  intro v1 v2 o hf
  unfold k_rangeMask at hf
  refine go_iloadN (pc := 0) d33_0 rfl (go_iloadN (pc := 1) d33_1 rfl ?_)
  by_cases h1 : v1 < v2
  · replace hf := (if_pos h1).symm.trans hf
    refine go_icY (pc := 2) (pc' := 7) d33_2 (XT.ii_gt_t h1) j_2_5 ?_
    refine go_aloadN (pc := 7) d33_7 rfl (go_iloadN (pc := 8) d33_8 rfl ?_)
    refine go_priv (pc := 9) (i := 0) (as := [.int v2]) (rest := []) (w' := (none, [(8, s)])) lk_0_129 pd_3 rfl oid_0 rfl rfl rfl rfl rfl rfl ⟨rfl, rfl, rfl, rfl, rfl⟩ d33_9 (c_k_lowMask v2 s) ?_
    refine go_lstoreN (pc := 12) (L' := [.val (.ref 1), .val (.int v1), .val (.int v2), .val (.long (k_lowMask v2)), .second, .unset, .unset]) d33_12 rfl (go_aloadN (pc := 13) d33_13 rfl (go_iloadN (pc := 14) d33_14 rfl ?_))
    refine go_priv (pc := 15) (i := 0) (as := [.int v1]) (rest := []) (w' := (none, [(8, s)])) lk_0_129 pd_3 rfl oid_0 rfl rfl rfl rfl rfl rfl ⟨rfl, rfl, rfl, rfl, rfl⟩ d33_15 (c_k_lowMask v1 s) ?_
    refine go_lstore (pc := 18) (L' := [.val (.ref 1), .val (.int v1), .val (.int v2), .val (.long (k_lowMask v2)), .second, .val (.long (k_lowMask v1)), .second]) d33_18 rfl (go_lloadN (pc := 20) d33_20 rfl (go_lload (pc := 21) d33_21 rfl (go_ldc2 (pc := 23) (u := (-1 : Int64)) d33_23 (List.mem_of_getElem? (i := 102) rfl) (go_lxor (pc := 26) d33_26 (go_land (pc := 27) d33_27 ?_)))))
    cases hf
    exact go_lret (pc := 28) rfl d33_28
  · replace hf := (if_neg h1).symm.trans hf
    refine go_icN (pc := 2) d33_2 (XT.ii_gt_f h1) ?_
    refine go_lconst (pc := 5) d33_5 cl_0 ?_
    cases hf
    exact go_lret (pc := 6) rfl d33_6
theorem c_k_rangeMask (v1 : Int32) (v2 : Int32) (s : S) : Call PP m33 [.ref 1, .int v1, .int v2] (none, [(8, s)]) (some (.long (k_rangeMask v1 v2)), (none, [(8, s)])) := call_of_go pl_0 rfl (fun h => nomatch h) (k_rangeMask_ok v1 v2   _ rfl)
set_option maxRecDepth 65536 in
set_option maxHeartbeats 4000000 in
theorem k_advanceMigrateScanner_ok  : ∀  (s : S)  (o : S), k_advanceMigrateScanner s = o → Go PP m34 0 [.val (.ref 1), .unset, .unset, .unset, .unset] [] (none, [(8, s)]) (none, (none, [(8, o)])) := by
  intro s o hf
  unfold k_advanceMigrateScanner at hf
  refine go_aloadN (pc := 0) d34_0 rfl (go_getI (pc := 1) fs_104 hm_34 d34_1 (go_aloadN (pc := 4) d34_4 rfl (go_getI (pc := 5) fs_107 hm_34 d34_5 ?_)))
  by_cases h1 : (gI s 9) < (gI s 10)
  · replace hf := (if_pos h1).symm.trans hf
    refine go_icY (pc := 8) (pc' := 12) d34_8 (XT.ii_lt_t h1) j_8_4 ?_
    refine go_aloadN (pc := 12) d34_12 rfl (go_aloadN (pc := 13) d34_13 rfl (go_getI (pc := 14) fs_104 hm_34 d34_14 (go_aloadN (pc := 17) d34_17 rfl (go_getI (pc := 18) fs_107 hm_34 d34_18 ?_))))
    refine go_priv (pc := 21) (i := 0) (as := [.int (gI s 9), .int (gI s 10)]) (rest := []) (w' := (none, [(8, s)])) lk_0_172 pd_33 rfl oid_0 rfl rfl rfl rfl rfl rfl ⟨rfl, rfl, rfl, rfl, rfl⟩ d34_21 (c_k_rangeMask (gI s 9) (gI s 10) s) ?_
    refine go_lstoreN (pc := 24) (L' := [.val (.ref 1), .val (.long (k_rangeMask (gI s 9) (gI s 10))), .second, .unset, .unset]) d34_24 rfl (go_aloadN (pc := 25) d34_25 rfl (go_getJ (pc := 26) fs_132 hm_34 d34_26 (go_lloadN (pc := 29) d34_29 rfl (go_land (pc := 30) d34_30 (go_lstoreN (pc := 31) (L' := [.val (.ref 1), .val (.long (k_rangeMask (gI s 9) (gI s 10))), .second, .val (.long ((gL s 3) &&& (k_rangeMask (gI s 9) (gI s 10)))), .second]) d34_31 rfl (go_lloadN (pc := 32) d34_32 rfl (go_lconst (pc := 33) d34_33 cl_0 ?_)))))))
    refine go_lcmp (pc := 34) d34_34 ?_
    by_cases h2 : ((gL s 3) &&& (k_rangeMask (gI s 9) (gI s 10))) = (0 : Int64)
    · replace hf := (if_pos h2).symm.trans hf
      refine go_ifN (pc := 35) d34_35 (XT.ll_ne_f h2) ?_
      refine go_aloadN (pc := 38) d34_38 rfl (go_aloadN (pc := 39) d34_39 rfl (go_getI (pc := 40) fs_107 hm_34 d34_40 (go_putI (pc := 43) fs_104 hm_34 (wr_9 _) hn_34 d34_43 (go_goto (pc := 46) (pc' := 58) d34_46 j_46_12 ?_))))
      cases hf
      exact go_ret (pc := 58) rfl d34_58
    · replace hf := (if_neg h2).symm.trans hf
      refine go_ifY (pc := 35) (pc' := 49) d34_35 (XT.ll_ne_t h2) j_35_14 ?_
      refine go_aloadN (pc := 49) d34_49 rfl (go_aloadN (pc := 50) d34_50 rfl (go_lloadN (pc := 51) d34_51 rfl ?_))
      refine go_priv (pc := 52) (i := 0) (as := [.long ((gL s 3) &&& (k_rangeMask (gI s 9) (gI s 10)))]) (rest := [.ref 1]) (w' := (none, [(8, s)])) lk_0_58 pd_9 rfl oid_0 rfl rfl rfl rfl rfl rfl ⟨rfl, rfl, rfl, rfl, rfl⟩ d34_52 (c_k_lowestBit ((gL s 3) &&& (k_rangeMask (gI s 9) (gI s 10))) s) ?_
      refine go_putI (pc := 55) fs_104 hm_34 (wr_9 _) hn_34 d34_55 ?_
      cases hf
      exact go_ret (pc := 58) rfl d34_58
  · replace hf := (if_neg h1).symm.trans hf
    refine go_icN (pc := 8) d34_8 (XT.ii_lt_f h1) ?_
    cases hf
    exact go_ret (pc := 11) rfl d34_11
theorem c_k_advanceMigrateScanner (s : S) : Call PP m34 [.ref 1] (none, [(8, s)]) (none, (none, [(8, (k_advanceMigrateScanner s))])) := call_of_go pl_0 rfl (fun _ => rfl) (k_advanceMigrateScanner_ok s   _ rfl)
set_option maxRecDepth 65536 in
set_option maxHeartbeats 4000000 in
theorem k_highestBit_109_ok  {s : S} : ∀ (v3 : Int32) (v4 : Int64)  (x1 : Slot) (x2 : Slot) (hx1 : k2 x1 x2) (o : Int32), k_highestBit_109 v3 v4 = o → Go PP m35 109 [.val (.ref 1), x1, x2, .val (.int v3), .val (.long v4), .second] [] (none, [(8, s)]) (some (.int o), (none, [(8, s)])) := by
  intro v3 v4 x1 x2 hx1 o hf
  unfold k_highestBit_109 at hf
  refine go_lload (pc := 109) d35_109 rfl (go_iconst (pc := 111) d35_111 ci_1 (go_lushr (pc := 112) d35_112 (go_lconst (pc := 113) d35_113 cl_0 (go_lcmp (pc := 114) d35_114 ?_))))
  by_cases h2 : (XT.ushrL v4 (1 : Int32)) = (0 : Int64)
  · replace hf := (if_pos h2).symm.trans hf
    refine go_ifY (pc := 115) (pc' := 121) d35_115 (XT.ll_eq_t h2) j_115_6 ?_
    refine go_iloadN (pc := 121) d35_121 rfl ?_
    cases hf
    exact go_iret (pc := 122) rfl d35_122
  · replace hf := (if_neg h2).symm.trans hf
    refine go_ifN (pc := 115) d35_115 (XT.ll_eq_f h2) ?_
    refine go_iinc (pc := 118) (L' := [.val (.ref 1), x1, x2, .val (.int (v3 + (1 : Int32))), .val (.long v4), .second]) d35_118 rfl ci_1 rfl (go_iloadN (pc := 121) d35_121 rfl ?_)
    cases hf
    exact go_iret (pc := 122) rfl d35_122
set_option maxRecDepth 65536 in
set_option maxHeartbeats 4000000 in
theorem k_highestBit_91_ok  {s : S} : ∀ (v3 : Int32) (v4 : Int64)  (x1 : Slot) (x2 : Slot) (hx1 : k2 x1 x2) (o : Int32), k_highestBit_91 v3 v4 = o → Go PP m35 91 [.val (.ref 1), x1, x2, .val (.int v3), .val (.long v4), .second] [] (none, [(8, s)]) (some (.int o), (none, [(8, s)])) := by
  intro v3 v4 x1 x2 hx1 o hf
  unfold k_highestBit_91 at hf
  refine go_lload (pc := 91) d35_91 rfl (go_iconst (pc := 93) d35_93 ci_2 (go_lushr (pc := 94) d35_94 (go_lconst (pc := 95) d35_95 cl_0 (go_lcmp (pc := 96) d35_96 ?_))))
  by_cases h1 : (XT.ushrL v4 (2 : Int32)) = (0 : Int64)
  · refine go_ifY (pc := 97) (pc' := 109) d35_97 (XT.ll_eq_t h1) j_97_12 ?_
    exact k_highestBit_109_ok v3 v4 x1 x2 hx1 _ (by first | simpa only [if_pos h1] using hf | contradiction)
  · refine go_ifN (pc := 97) d35_97 (XT.ll_eq_f h1) ?_
    refine go_iinc (pc := 100) (L' := [.val (.ref 1), x1, x2, .val (.int (v3 + (2 : Int32))), .val (.long v4), .second]) d35_100 rfl ci_2 rfl (go_lload (pc := 103) d35_103 rfl (go_iconst (pc := 105) d35_105 ci_2 (go_lushr (pc := 106) d35_106 (go_lstore (pc := 107) (L' := [.val (.ref 1), x1, x2, .val (.int (v3 + (2 : Int32))), .val (.long (XT.ushrL v4 (2 : Int32))), .second]) d35_107 rfl ?_))))
    exact k_highestBit_109_ok (v3 + (2 : Int32)) (XT.ushrL v4 (2 : Int32)) x1 x2 hx1 _ (by first | simpa only [if_neg h1] using hf | contradiction)
set_option maxRecDepth 65536 in
set_option maxHeartbeats 4000000 in
theorem k_highestBit_73_ok  {s : S} : ∀ (v3 : Int32) (v4 : Int64)  (x1 : Slot) (x2 : Slot) (hx1 : k2 x1 x2) (o : Int32), k_highestBit_73 v3 v4 = o → Go PP m35 73 [.val (.ref 1), x1, x2, .val (.int v3), .val (.long v4), .second] [] (none, [(8, s)]) (some (.int o), (none, [(8, s)])) := by
  intro v3 v4 x1 x2 hx1 o hf
  unfold k_highestBit_73 at hf
  refine go_lload (pc := 73) d35_73 rfl (go_iconst (pc := 75) d35_75 ci_4 (go_lushr (pc := 76) d35_76 (go_lconst (pc := 77) d35_77 cl_0 (go_lcmp (pc := 78) d35_78 ?_))))
  by_cases h1 : (XT.ushrL v4 (4 : Int32)) = (0 : Int64)
  · refine go_ifY (pc := 79) (pc' := 91) d35_79 (XT.ll_eq_t h1) j_79_12 ?_
    exact k_highestBit_91_ok v3 v4 x1 x2 hx1 _ (by first | simpa only [if_pos h1] using hf | contradiction)
  · refine go_ifN (pc := 79) d35_79 (XT.ll_eq_f h1) ?_
    refine go_iinc (pc := 82) (L' := [.val (.ref 1), x1, x2, .val (.int (v3 + (4 : Int32))), .val (.long v4), .second]) d35_82 rfl ci_4 rfl (go_lload (pc := 85) d35_85 rfl (go_iconst (pc := 87) d35_87 ci_4 (go_lushr (pc := 88) d35_88 (go_lstore (pc := 89) (L' := [.val (.ref 1), x1, x2, .val (.int (v3 + (4 : Int32))), .val (.long (XT.ushrL v4 (4 : Int32))), .second]) d35_89 rfl ?_))))
    exact k_highestBit_91_ok (v3 + (4 : Int32)) (XT.ushrL v4 (4 : Int32)) x1 x2 hx1 _ (by first | simpa only [if_neg h1] using hf | contradiction)
set_option maxRecDepth 65536 in
set_option maxHeartbeats 4000000 in
theorem k_highestBit_53_ok  {s : S} : ∀ (v3 : Int32) (v4 : Int64)  (x1 : Slot) (x2 : Slot) (hx1 : k2 x1 x2) (o : Int32), k_highestBit_53 v3 v4 = o → Go PP m35 53 [.val (.ref 1), x1, x2, .val (.int v3), .val (.long v4), .second] [] (none, [(8, s)]) (some (.int o), (none, [(8, s)])) := by
  intro v3 v4 x1 x2 hx1 o hf
  unfold k_highestBit_53 at hf
  refine go_lload (pc := 53) d35_53 rfl (go_bipush (pc := 55) d35_55 cb_8 (go_lushr (pc := 57) d35_57 (go_lconst (pc := 58) d35_58 cl_0 (go_lcmp (pc := 59) d35_59 ?_))))
  by_cases h1 : (XT.ushrL v4 (8 : Int32)) = (0 : Int64)
  · refine go_ifY (pc := 60) (pc' := 73) d35_60 (XT.ll_eq_t h1) j_60_13 ?_
    exact k_highestBit_73_ok v3 v4 x1 x2 hx1 _ (by first | simpa only [if_pos h1] using hf | contradiction)
  · refine go_ifN (pc := 60) d35_60 (XT.ll_eq_f h1) ?_
    refine go_iinc (pc := 63) (L' := [.val (.ref 1), x1, x2, .val (.int (v3 + (8 : Int32))), .val (.long v4), .second]) d35_63 rfl ci_8 rfl (go_lload (pc := 66) d35_66 rfl (go_bipush (pc := 68) d35_68 cb_8 (go_lushr (pc := 70) d35_70 (go_lstore (pc := 71) (L' := [.val (.ref 1), x1, x2, .val (.int (v3 + (8 : Int32))), .val (.long (XT.ushrL v4 (8 : Int32))), .second]) d35_71 rfl ?_))))
    exact k_highestBit_73_ok (v3 + (8 : Int32)) (XT.ushrL v4 (8 : Int32)) x1 x2 hx1 _ (by first | simpa only [if_neg h1] using hf | contradiction)
set_option maxRecDepth 65536 in
set_option maxHeartbeats 4000000 in
theorem k_highestBit_33_ok  {s : S} : ∀ (v3 : Int32) (v4 : Int64)  (x1 : Slot) (x2 : Slot) (hx1 : k2 x1 x2) (o : Int32), k_highestBit_33 v3 v4 = o → Go PP m35 33 [.val (.ref 1), x1, x2, .val (.int v3), .val (.long v4), .second] [] (none, [(8, s)]) (some (.int o), (none, [(8, s)])) := by
  intro v3 v4 x1 x2 hx1 o hf
  unfold k_highestBit_33 at hf
  refine go_lload (pc := 33) d35_33 rfl (go_bipush (pc := 35) d35_35 cb_16 (go_lushr (pc := 37) d35_37 (go_lconst (pc := 38) d35_38 cl_0 (go_lcmp (pc := 39) d35_39 ?_))))
  by_cases h1 : (XT.ushrL v4 (16 : Int32)) = (0 : Int64)
  · refine go_ifY (pc := 40) (pc' := 53) d35_40 (XT.ll_eq_t h1) j_40_13 ?_
    exact k_highestBit_53_ok v3 v4 x1 x2 hx1 _ (by first | simpa only [if_pos h1] using hf | contradiction)
  · refine go_ifN (pc := 40) d35_40 (XT.ll_eq_f h1) ?_
    refine go_iinc (pc := 43) (L' := [.val (.ref 1), x1, x2, .val (.int (v3 + (16 : Int32))), .val (.long v4), .second]) d35_43 rfl ci_16 rfl (go_lload (pc := 46) d35_46 rfl (go_bipush (pc := 48) d35_48 cb_16 (go_lushr (pc := 50) d35_50 (go_lstore (pc := 51) (L' := [.val (.ref 1), x1, x2, .val (.int (v3 + (16 : Int32))), .val (.long (XT.ushrL v4 (16 : Int32))), .second]) d35_51 rfl ?_))))
    exact k_highestBit_53_ok (v3 + (16 : Int32)) (XT.ushrL v4 (16 : Int32)) x1 x2 hx1 _ (by first | simpa only [if_neg h1] using hf | contradiction)
set_option maxRecDepth 65536 in
set_option maxHeartbeats 4000000 in
theorem k_highestBit_ok  {s : S} : ∀ (v1 : Int64)   (o : Int32), k_highestBit v1 = o → Go PP m35 0 [.val (.ref 1), .val (.long v1), .second, .unset, .unset, .unset] [] (none, [(8, s)]) (some (.int o), (none, [(8, s)])) := by
  intro v1 o hf
  unfold k_highestBit at hf
  refine go_lloadN (pc := 0) d35_0 rfl (go_lconst (pc := 1) d35_1 cl_0 (go_lcmp (pc := 2) d35_2 ?_))
  by_cases h1 : v1 = (0 : Int64)
  · replace hf := (if_pos h1).symm.trans hf
    refine go_ifN (pc := 3) d35_3 (XT.ll_ne_f h1) ?_
    refine go_iconst (pc := 6) d35_6 ci_m1 ?_
    cases hf
    exact go_iret (pc := 7) rfl d35_7
  · replace hf := (if_neg h1).symm.trans hf
    refine go_ifY (pc := 3) (pc' := 8) d35_3 (XT.ll_ne_t h1) j_3_5 ?_
    refine go_iconst (pc := 8) d35_8 ci_0 (go_istoreN (pc := 9) (L' := [.val (.ref 1), .val (.long v1), .second, .val (.int (0 : Int32)), .unset, .unset]) d35_9 rfl (go_lloadN (pc := 10) d35_10 rfl (go_lstore (pc := 11) (L' := [.val (.ref 1), .val (.long v1), .second, .val (.int (0 : Int32)), .val (.long v1), .second]) d35_11 rfl (go_lload (pc := 13) d35_13 rfl (go_bipush (pc := 15) d35_15 cb_32 (go_lushr (pc := 17) d35_17 (go_lconst (pc := 18) d35_18 cl_0 ?_)))))))
    refine go_lcmp (pc := 19) d35_19 ?_
    by_cases h2 : (XT.ushrL v1 (32 : Int32)) = (0 : Int64)
    · refine go_ifY (pc := 20) (pc' := 33) d35_20 (XT.ll_eq_t h2) j_20_13 ?_
      exact k_highestBit_33_ok (0 : Int32) v1 (.val (.long v1)) .second (Or.inr ⟨_, rfl, rfl⟩) _ (by first | simpa only [if_pos h2] using hf | contradiction)
    · refine go_ifN (pc := 20) d35_20 (XT.ll_eq_f h2) ?_
      refine go_iinc (pc := 23) (L' := [.val (.ref 1), .val (.long v1), .second, .val (.int ((0 : Int32) + (32 : Int32))), .val (.long v1), .second]) d35_23 rfl ci_32 rfl (go_lload (pc := 26) d35_26 rfl (go_bipush (pc := 28) d35_28 cb_32 (go_lushr (pc := 30) d35_30 (go_lstore (pc := 31) (L' := [.val (.ref 1), .val (.long v1), .second, .val (.int ((0 : Int32) + (32 : Int32))), .val (.long (XT.ushrL v1 (32 : Int32))), .second]) d35_31 rfl ?_))))
      exact k_highestBit_33_ok ((0 : Int32) + (32 : Int32)) (XT.ushrL v1 (32 : Int32)) (.val (.long v1)) .second (Or.inr ⟨_, rfl, rfl⟩) _ (by first | simpa only [if_neg h2] using hf | contradiction)
theorem c_k_highestBit (v1 : Int64) (s : S) : Call PP m35 [.ref 1, .long v1] (none, [(8, s)]) (some (.int (k_highestBit v1)), (none, [(8, s)])) := call_of_go pl_0 rfl (fun h => nomatch h) (k_highestBit_ok v1   _ rfl)
set_option maxRecDepth 65536 in
set_option maxHeartbeats 4000000 in
theorem k_retreatFreeScanner_ok  : ∀  (s : S)  (o : S), k_retreatFreeScanner s = o → Go PP m36 0 [.val (.ref 1), .unset, .unset, .unset, .unset] [] (none, [(8, s)]) (none, (none, [(8, o)])) := by
  intro s o hf
  unfold k_retreatFreeScanner at hf
  refine go_aloadN (pc := 0) d36_0 rfl (go_getI (pc := 1) fs_107 hm_36 d36_1 (go_aloadN (pc := 4) d36_4 rfl (go_getI (pc := 5) fs_104 hm_36 d36_5 ?_)))
  by_cases h1 : (gI s 9) < (gI s 10)
  · replace hf := (if_pos h1).symm.trans hf
    refine go_icY (pc := 8) (pc' := 12) d36_8 (XT.ii_gt_t h1) j_8_4 ?_
    refine go_aloadN (pc := 12) d36_12 rfl (go_aloadN (pc := 13) d36_13 rfl (go_getI (pc := 14) fs_104 hm_36 d36_14 (go_iconst (pc := 17) d36_17 ci_1 (go_iadd (pc := 18) d36_18 (go_aloadN (pc := 19) d36_19 rfl (go_getI (pc := 20) fs_107 hm_36 d36_20 (go_iconst (pc := 23) d36_23 ci_1 ?_)))))))
    refine go_iadd (pc := 24) d36_24 ?_
    refine go_priv (pc := 25) (i := 0) (as := [.int ((gI s 9) + (1 : Int32)), .int ((gI s 10) + (1 : Int32))]) (rest := []) (w' := (none, [(8, s)])) lk_0_172 pd_33 rfl oid_0 rfl rfl rfl rfl rfl rfl ⟨rfl, rfl, rfl, rfl, rfl⟩ d36_25 (c_k_rangeMask ((gI s 9) + (1 : Int32)) ((gI s 10) + (1 : Int32)) s) ?_
    refine go_lstoreN (pc := 28) (L' := [.val (.ref 1), .val (.long (k_rangeMask ((gI s 9) + (1 : Int32)) ((gI s 10) + (1 : Int32)))), .second, .unset, .unset]) d36_28 rfl (go_aloadN (pc := 29) d36_29 rfl (go_getJ (pc := 30) fs_54 hm_36 d36_30 (go_lloadN (pc := 33) d36_33 rfl (go_land (pc := 34) d36_34 (go_lstoreN (pc := 35) (L' := [.val (.ref 1), .val (.long (k_rangeMask ((gI s 9) + (1 : Int32)) ((gI s 10) + (1 : Int32)))), .second, .val (.long ((gL s 2) &&& (k_rangeMask ((gI s 9) + (1 : Int32)) ((gI s 10) + (1 : Int32))))), .second]) d36_35 rfl (go_lloadN (pc := 36) d36_36 rfl (go_lconst (pc := 37) d36_37 cl_0 ?_)))))))
    refine go_lcmp (pc := 38) d36_38 ?_
    by_cases h2 : ((gL s 2) &&& (k_rangeMask ((gI s 9) + (1 : Int32)) ((gI s 10) + (1 : Int32)))) = (0 : Int64)
    · replace hf := (if_pos h2).symm.trans hf
      refine go_ifN (pc := 39) d36_39 (XT.ll_ne_f h2) ?_
      refine go_aloadN (pc := 42) d36_42 rfl (go_aloadN (pc := 43) d36_43 rfl (go_getI (pc := 44) fs_104 hm_36 d36_44 (go_putI (pc := 47) fs_107 hm_36 (wr_10 _) hn_36 d36_47 (go_goto (pc := 50) (pc' := 62) d36_50 j_50_12 ?_))))
      cases hf
      exact go_ret (pc := 62) rfl d36_62
    · replace hf := (if_neg h2).symm.trans hf
      refine go_ifY (pc := 39) (pc' := 53) d36_39 (XT.ll_ne_t h2) j_39_14 ?_
      refine go_aloadN (pc := 53) d36_53 rfl (go_aloadN (pc := 54) d36_54 rfl (go_lloadN (pc := 55) d36_55 rfl ?_))
      refine go_priv (pc := 56) (i := 0) (as := [.long ((gL s 2) &&& (k_rangeMask ((gI s 9) + (1 : Int32)) ((gI s 10) + (1 : Int32))))]) (rest := [.ref 1]) (w' := (none, [(8, s)])) lk_0_176 pd_35 rfl oid_0 rfl rfl rfl rfl rfl rfl ⟨rfl, rfl, rfl, rfl, rfl⟩ d36_56 (c_k_highestBit ((gL s 2) &&& (k_rangeMask ((gI s 9) + (1 : Int32)) ((gI s 10) + (1 : Int32)))) s) ?_
      refine go_putI (pc := 59) fs_107 hm_36 (wr_10 _) hn_36 d36_59 ?_
      cases hf
      exact go_ret (pc := 62) rfl d36_62
  · replace hf := (if_neg h1).symm.trans hf
    refine go_icN (pc := 8) d36_8 (XT.ii_gt_f h1) ?_
    cases hf
    exact go_ret (pc := 11) rfl d36_11
theorem c_k_retreatFreeScanner (s : S) : Call PP m36 [.ref 1] (none, [(8, s)]) (none, (none, [(8, (k_retreatFreeScanner s))])) := call_of_go pl_0 rfl (fun _ => rfl) (k_retreatFreeScanner_ok s   _ rfl)
set_option maxRecDepth 65536 in
set_option maxHeartbeats 4000000 in
theorem k_scannersDone_ok  : ∀  (s : S)  (o : Int32), k_scannersDone s = o → Go PP m37 0 [.val (.ref 1)] [] (none, [(8, s)]) (some (.int o), (none, [(8, s)])) := by
  intro s o hf
  unfold k_scannersDone at hf
  refine go_aloadN (pc := 0) d37_0 rfl (go_getI (pc := 1) fs_104 hm_37 d37_1 (go_aloadN (pc := 4) d37_4 rfl (go_getI (pc := 5) fs_107 hm_37 d37_5 ?_)))
  by_cases h1 : (gI s 9) < (gI s 10)
  · replace hf := (if_pos h1).symm.trans hf
    refine go_icY (pc := 8) (pc' := 13) d37_8 (XT.ii_lt_t h1) j_8_5 ?_
    refine go_aloadN (pc := 13) d37_13 rfl (go_getI (pc := 14) fs_101 hm_37 d37_14 (go_aloadN (pc := 17) d37_17 rfl (go_getI (pc := 18) fs_98 hm_37 d37_18 ?_)))
    by_cases h2 : (gI s 8) = (gI s 7)
    · replace hf := (if_pos h2).symm.trans hf
      refine go_icN (pc := 21) d37_21 (XT.ii_ne_f h2) ?_
      refine go_iconst (pc := 24) d37_24 ci_1 (go_goto (pc := 25) (pc' := 29) d37_25 j_25_4 ?_)
      cases hf
      exact go_zret (pc := 29) rfl d37_29 (show (1 : Int32) = nar .boolean (1 : Int32) by decide)
    · replace hf := (if_neg h2).symm.trans hf
      refine go_icY (pc := 21) (pc' := 28) d37_21 (XT.ii_ne_t h2) j_21_7 ?_
      refine go_iconst (pc := 28) d37_28 ci_0 ?_
      cases hf
      exact go_zret (pc := 29) rfl d37_29 (show (0 : Int32) = nar .boolean (0 : Int32) by decide)
  · replace hf := (if_neg h1).symm.trans hf
    refine go_icN (pc := 8) d37_8 (XT.ii_lt_f h1) ?_
    refine go_iconst (pc := 11) d37_11 ci_1 ?_
    cases hf
    exact go_zret (pc := 12) rfl d37_12 (show (1 : Int32) = nar .boolean (1 : Int32) by decide)
theorem c_k_scannersDone (s : S) : Call PP m37 [.ref 1] (none, [(8, s)]) (some (.int (k_scannersDone s)), (none, [(8, s)])) := call_of_go pl_0 rfl (fun h => nomatch h) (k_scannersDone_ok s   _ rfl)
set_option maxRecDepth 65536 in
set_option maxHeartbeats 4000000 in
theorem k_rmapTransfer_47_ok  : ∀ (v1 : Int32) (v2 : Int32) (s : S) (x3 : Slot) (x4 : Slot) (hx3 : k1 x3) (hx4 : k1 x4) (o : S), k_rmapTransfer_47 v1 v2 s = some o → Go PP m38 47 [.val (.ref 1), .val (.int v1), .val (.int v2), x3, x4] [] (none, [(8, s)]) (none, (none, [(8, o)])) := by
  intro v1 v2 s x3 x4 hx3 hx4 o hf
  unfold k_rmapTransfer_47 at hf
  refine go_aloadN (pc := 47) d38_47 rfl (go_getA (pc := 48) fa_23 hm_38 d38_48 rfl (go_iloadN (pc := 51) d38_51 rfl (go_aloadN (pc := 52) d38_52 rfl (go_getA (pc := 53) fa_23 hm_38 d38_53 rfl (go_iloadN (pc := 56) d38_56 rfl ?_)))))
  obtain ⟨a57, e1, hf⟩ := Option.bind_eq_some_iff.mp hf
  refine go_iaload (pc := 57) (q := 4) ar_4 rfl e1 d38_57 ?_
  obtain ⟨a58, e2, hf⟩ := Option.bind_eq_some_iff.mp hf
  refine go_iastore (pc := 58) (q := 4) ar_4 rfl hn_38 e2 d38_58 ?_
  refine go_aloadN (pc := 59) d38_59 rfl (go_getA (pc := 60) fa_23 hm_38 d38_60 rfl (go_iloadN (pc := 63) d38_63 rfl (go_iconst (pc := 64) d38_64 ci_m1 ?_)))
  obtain ⟨a65, e3, hf⟩ := Option.bind_eq_some_iff.mp hf
  refine go_iastore (pc := 65) (q := 4) ar_4 rfl hn_38 e3 d38_65 ?_
  cases hf
  exact go_ret (pc := 66) rfl d38_66
set_option maxRecDepth 65536 in
set_option maxHeartbeats 4000000 in
theorem k_rmapTransfer_10_ok  : ∀ (n : Nat) (v1 : Int32) (v2 : Int32) (v3 : Int32) (v4 : Int32) (s : S)  (o : S), k_rmapTransfer_10 n v1 v2 v3 v4 s = some o → Go PP m38 10 [.val (.ref 1), .val (.int v1), .val (.int v2), .val (.int v3), .val (.int v4)] [] (none, [(8, s)]) (none, (none, [(8, o)])) := by
  intro n
  induction n with
  | zero => intro v1 v2 v3 v4 s o hf; exact nomatch hf
  | succ n ih =>
    intro v1 v2 v3 v4 s o hf
    unfold k_rmapTransfer_10 at hf
    refine go_iload (pc := 10) d38_10 rfl (go_bipush (pc := 12) d38_12 cb_64 ?_)
    by_cases h1 : v4 < (64 : Int32)
    · replace hf := (if_pos h1).symm.trans hf
      refine go_icN (pc := 14) d38_14 (XT.ii_ge_f h1) ?_
      refine go_iloadN (pc := 17) d38_17 rfl ?_
      by_cases h2 : v3 < 0
      · replace hf := (if_pos h2).symm.trans hf
        refine go_ifY (pc := 18) (pc' := 47) d38_18 (XT.i0_lt_t h2) j_18_29 ?_
        exact k_rmapTransfer_47_ok v1 v2 s (.val (.int v3)) (.val (.int v4)) (Or.inr ⟨_, rfl, rfl⟩) (Or.inr ⟨_, rfl, rfl⟩) _ hf
      · replace hf := (if_neg h2).symm.trans hf
        refine go_ifN (pc := 18) d38_18 (XT.i0_lt_f h2) ?_
        refine go_iloadN (pc := 21) d38_21 rfl (go_bipush (pc := 22) d38_22 cb_64 ?_)
        by_cases h3 : v3 < (64 : Int32)
        · replace hf := (if_pos h3).symm.trans hf
          refine go_icN (pc := 24) d38_24 (XT.ii_ge_f h3) ?_
          refine go_aloadN (pc := 27) d38_27 rfl (go_getA (pc := 28) fa_20 hm_38 d38_28 rfl (go_iloadN (pc := 31) d38_31 rfl (go_iloadN (pc := 32) d38_32 rfl ?_)))
          obtain ⟨a33, e4, hf⟩ := Option.bind_eq_some_iff.mp hf
          refine go_iastore (pc := 33) (q := 3) ar_3 rfl hn_38 e4 d38_33 ?_
          refine go_aloadN (pc := 34) d38_34 rfl (go_getA (pc := 35) fa_26 hm_38 d38_35 rfl (go_iloadN (pc := 38) d38_38 rfl ?_))
          obtain ⟨a39, e5, hf⟩ := Option.bind_eq_some_iff.mp hf
          refine go_iaload (pc := 39) (q := 5) ar_5 rfl e5 d38_39 ?_
          refine go_istoreN (pc := 40) (L' := [.val (.ref 1), .val (.int v1), .val (.int v2), .val (.int a39), .val (.int v4)]) d38_40 rfl (go_iinc (pc := 41) (L' := [.val (.ref 1), .val (.int v1), .val (.int v2), .val (.int a39), .val (.int (v4 + (1 : Int32)))]) d38_41 rfl ci_1 rfl (go_goto (pc := 44) (pc' := 10) d38_44 j_44_m34 ?_))
          exact ih v1 v2 a39 (v4 + (1 : Int32)) (sA s 3 a33) _ hf
        · replace hf := (if_neg h3).symm.trans hf
          refine go_icY (pc := 24) (pc' := 47) d38_24 (XT.ii_ge_t h3) j_24_23 ?_
          exact k_rmapTransfer_47_ok v1 v2 s (.val (.int v3)) (.val (.int v4)) (Or.inr ⟨_, rfl, rfl⟩) (Or.inr ⟨_, rfl, rfl⟩) _ hf
    · replace hf := (if_neg h1).symm.trans hf
      refine go_icY (pc := 14) (pc' := 47) d38_14 (XT.ii_ge_t h1) j_14_33 ?_
      exact k_rmapTransfer_47_ok v1 v2 s (.val (.int v3)) (.val (.int v4)) (Or.inr ⟨_, rfl, rfl⟩) (Or.inr ⟨_, rfl, rfl⟩) _ hf
set_option maxRecDepth 65536 in
set_option maxHeartbeats 4000000 in
theorem k_rmapTransfer_ok  : ∀ (v1 : Int32) (v2 : Int32) (s : S)  (o : S), k_rmapTransfer v1 v2 s = some o → Go PP m38 0 [.val (.ref 1), .val (.int v1), .val (.int v2), .unset, .unset] [] (none, [(8, s)]) (none, (none, [(8, o)])) := by
  intro v1 v2 s o hf
  unfold k_rmapTransfer at hf
  refine go_aloadN (pc := 0) d38_0 rfl (go_getA (pc := 1) fa_23 hm_38 d38_1 rfl (go_iloadN (pc := 4) d38_4 rfl ?_))
  obtain ⟨a5, e1, hf⟩ := Option.bind_eq_some_iff.mp hf
  refine go_iaload (pc := 5) (q := 4) ar_4 rfl e1 d38_5 ?_
  refine go_istoreN (pc := 6) (L' := [.val (.ref 1), .val (.int v1), .val (.int v2), .val (.int a5), .unset]) d38_6 rfl (go_iconst (pc := 7) d38_7 ci_0 (go_istore (pc := 8) (L' := [.val (.ref 1), .val (.int v1), .val (.int v2), .val (.int a5), .val (.int (0 : Int32))]) d38_8 rfl ?_))
  exact k_rmapTransfer_10_ok BIG v1 v2 a5 (0 : Int32) s _ hf
theorem c_k_rmapTransfer (v1 : Int32) (v2 : Int32) (s : S) (o : S) (hf : k_rmapTransfer v1 v2 s = some o) : Call PP m38 [.ref 1, .int v1, .int v2] (none, [(8, s)]) (none, (none, [(8, o)])) := call_of_go pl_0 rfl (fun _ => rfl) (k_rmapTransfer_ok v1 v2 s   _ hf)
set_option maxRecDepth 65536 in
set_option maxHeartbeats 4000000 in
theorem k_migrateFrame_ok  : ∀ (v1 : Int32) (v2 : Int32) (s : S)  (o : S), k_migrateFrame v1 v2 s = some o → Go PP m39 0 [.val (.ref 1), .val (.int v1), .val (.int v2), .unset, .unset] [] (none, [(8, s)]) (none, (none, [(8, o)])) := by
  intro v1 v2 s o hf
  unfold k_migrateFrame at hf
  refine go_aloadN (pc := 0) d39_0 rfl (go_iloadN (pc := 1) d39_1 rfl ?_)
  refine go_priv (pc := 2) (i := 0) (as := [.int v1]) (rest := []) (w' := (none, [(8, s)])) lk_0_62 pd_10 rfl oid_0 rfl rfl rfl rfl rfl rfl ⟨rfl, rfl, rfl, rfl, rfl⟩ d39_2 (c_k_frameInRange v1 s) ?_
  by_cases h1 : (k_frameInRange v1 s) = 0
  · replace hf := (if_pos h1).symm.trans hf
    refine go_ifY (pc := 5) (pc' := 16) d39_5 (XT.i0_eq_t h1) j_5_11 ?_
    cases hf
    exact go_ret (pc := 16) rfl d39_16
  · replace hf := (if_neg h1).symm.trans hf
    refine go_ifN (pc := 5) d39_5 (XT.i0_eq_f h1) ?_
    refine go_aloadN (pc := 8) d39_8 rfl (go_iloadN (pc := 9) d39_9 rfl ?_)
    refine go_priv (pc := 10) (i := 0) (as := [.int v2]) (rest := []) (w' := (none, [(8, s)])) lk_0_62 pd_10 rfl oid_0 rfl rfl rfl rfl rfl rfl ⟨rfl, rfl, rfl, rfl, rfl⟩ d39_10 (c_k_frameInRange v2 s) ?_
    by_cases h2 : (k_frameInRange v2 s) = 0
    · replace hf := (if_pos h2).symm.trans hf
      refine go_ifN (pc := 13) d39_13 (XT.i0_ne_f h2) ?_
      cases hf
      exact go_ret (pc := 16) rfl d39_16
    · replace hf := (if_neg h2).symm.trans hf
      refine go_ifY (pc := 13) (pc' := 17) d39_13 (XT.i0_ne_t h2) j_13_4 ?_
      refine go_aloadN (pc := 17) d39_17 rfl (go_getA (pc := 18) fa_7 hm_39 d39_18 rfl (go_iloadN (pc := 21) d39_21 rfl ?_))
      obtain ⟨a22, e3, hf⟩ := Option.bind_eq_some_iff.mp hf
      refine go_baload (pc := 22) (q := 0) ar_0 (by decide) rfl e3 d39_22 ?_
      refine go_iconst (pc := 23) d39_23 ci_1 ?_
      by_cases h4 : a22 = (1 : Int32)
      · replace hf := (if_pos h4).symm.trans hf
        refine go_icN (pc := 24) d39_24 (XT.ii_ne_f h4) ?_
        refine go_aloadN (pc := 27) d39_27 rfl (go_getA (pc := 28) fa_7 hm_39 d39_28 rfl (go_iloadN (pc := 31) d39_31 rfl ?_))
        obtain ⟨a32, e5, hf⟩ := Option.bind_eq_some_iff.mp hf
        refine go_baload (pc := 32) (q := 0) ar_0 (by decide) rfl e5 d39_32 ?_
        by_cases h6 : a32 = 0
        · replace hf := (if_pos h6).symm.trans hf
          refine go_ifY (pc := 33) (pc' := 37) d39_33 (XT.i0_eq_t h6) j_33_4 ?_
          refine go_aloadN (pc := 37) d39_37 rfl (go_getA (pc := 38) fa_13 hm_39 d39_38 rfl (go_iloadN (pc := 41) d39_41 rfl ?_))
          obtain ⟨a42, e7, hf⟩ := Option.bind_eq_some_iff.mp hf
          refine go_iaload (pc := 42) (q := 1) ar_1 rfl e7 d39_42 ?_
          refine go_istoreN (pc := 43) (L' := [.val (.ref 1), .val (.int v1), .val (.int v2), .val (.int a42), .unset]) d39_43 rfl (go_aloadN (pc := 44) d39_44 rfl (go_getA (pc := 45) fa_17 hm_39 d39_45 rfl (go_iloadN (pc := 48) d39_48 rfl ?_)))
          obtain ⟨a49, e8, hf⟩ := Option.bind_eq_some_iff.mp hf
          refine go_iaload (pc := 49) (q := 2) ar_2 rfl e8 d39_49 ?_
          refine go_istore (pc := 50) (L' := [.val (.ref 1), .val (.int v1), .val (.int v2), .val (.int a42), .val (.int a49)]) d39_50 rfl (go_aloadN (pc := 52) d39_52 rfl (go_iloadN (pc := 53) d39_53 rfl (go_iconst (pc := 54) d39_54 ci_1 ?_)))
          obtain ⟨r55, e9, hf⟩ := Option.bind_eq_some_iff.mp hf
          refine go_priv (pc := 55) (i := 0) (as := [.int v2, .int (1 : Int32)]) (rest := []) (w' := (none, [(8, r55)])) lk_0_69 pd_12 rfl oid_0 rfl rfl rfl rfl rfl rfl ⟨rfl, rfl, rfl, rfl, rfl⟩ d39_55 (c_k_enterState v2 (1 : Int32) s _ e9) ?_
          refine go_aloadN (pc := 58) d39_58 rfl (go_getA (pc := 59) fa_13 hm_39 d39_59 rfl (go_iloadN (pc := 62) d39_62 rfl (go_iloadN (pc := 63) d39_63 rfl ?_)))
          obtain ⟨a64, e10, hf⟩ := Option.bind_eq_some_iff.mp hf
          refine go_iastore (pc := 64) (q := 1) ar_1 rfl hn_39 e10 d39_64 ?_
          refine go_aloadN (pc := 65) d39_65 rfl (go_getA (pc := 66) fa_17 hm_39 d39_66 rfl (go_iloadN (pc := 69) d39_69 rfl (go_iload (pc := 70) d39_70 rfl ?_)))
          obtain ⟨a72, e11, hf⟩ := Option.bind_eq_some_iff.mp hf
          refine go_iastore (pc := 72) (q := 2) ar_2 rfl hn_39 e11 d39_72 ?_
          refine go_aloadN (pc := 73) d39_73 rfl (go_iloadN (pc := 74) d39_74 rfl (go_iloadN (pc := 75) d39_75 rfl ?_))
          obtain ⟨r76, e12, hf⟩ := Option.bind_eq_some_iff.mp hf
          refine go_priv (pc := 76) (i := 0) (as := [.int v1, .int v2]) (rest := []) (w' := (none, [(8, r76)])) lk_0_179 pd_38 rfl oid_0 rfl rfl rfl rfl rfl rfl ⟨rfl, rfl, rfl, rfl, rfl⟩ d39_76 (c_k_rmapTransfer v1 v2 (sA (sA r55 1 a64) 2 a72) _ e12) ?_
          refine go_aloadN (pc := 79) d39_79 rfl (go_iloadN (pc := 80) d39_80 rfl ?_)
          obtain ⟨r81, e13, hf⟩ := Option.bind_eq_some_iff.mp hf
          refine go_priv (pc := 81) (i := 0) (as := [.int v1]) (rest := []) (w' := (none, [(8, r81)])) lk_0_84 pd_19 rfl oid_0 rfl rfl rfl rfl rfl rfl ⟨rfl, rfl, rfl, rfl, rfl⟩ d39_81 (c_k_freeFrame v1 r76 _ e13) ?_
          cases hf
          exact go_ret (pc := 84) rfl d39_84
        · replace hf := (if_neg h6).symm.trans hf
          refine go_ifN (pc := 33) d39_33 (XT.i0_eq_f h6) ?_
          cases hf
          exact go_ret (pc := 36) rfl d39_36
      · replace hf := (if_neg h4).symm.trans hf
        refine go_icY (pc := 24) (pc' := 36) d39_24 (XT.ii_ne_t h4) j_24_12 ?_
        cases hf
        exact go_ret (pc := 36) rfl d39_36
theorem c_k_migrateFrame (v1 : Int32) (v2 : Int32) (s : S) (o : S) (hf : k_migrateFrame v1 v2 s = some o) : Call PP m39 [.ref 1, .int v1, .int v2] (none, [(8, s)]) (none, (none, [(8, o)])) := call_of_go pl_0 rfl (fun _ => rfl) (k_migrateFrame_ok v1 v2 s   _ hf)
set_option maxRecDepth 65536 in
set_option maxHeartbeats 4000000 in
theorem k_compact_34_ok  : ∀ (n : Nat) (v2 : Int32) (s : S) (x1 : Slot) (hx1 : k1 x1) (o : Int32 × S), k_compact_34 n v2 s = some o → Go PP m40 34 [.val (.ref 1), x1, .val (.int v2)] [] (none, [(8, s)]) (some (.int o.1), (none, [(8, o.2)])) := by
  intro n
  induction n with
  | zero => intro v2 s x1 hx1 o hf; exact nomatch hf
  | succ n ih =>
    intro v2 s x1 hx1 o hf
    unfold k_compact_34 at hf
    refine go_iloadN (pc := 34) d40_34 rfl (go_bipush (pc := 35) d40_35 cb_65 ?_)
    by_cases h1 : (65 : Int32) < v2
    · replace hf := (if_pos h1).symm.trans hf
      refine go_icY (pc := 37) (pc' := 106) d40_37 (XT.ii_gt_t h1) j_37_69 ?_
      refine go_aloadN (pc := 106) d40_106 rfl (go_getI (pc := 107) fs_101 hm_40 d40_107 ?_)
      cases hf
      exact go_iret (pc := 110) rfl d40_110
    · replace hf := (if_neg h1).symm.trans hf
      refine go_icN (pc := 37) d40_37 (XT.ii_gt_f h1) ?_
      refine go_aloadN (pc := 40) d40_40 rfl ?_
      refine go_priv (pc := 41) (i := 0) (as := []) (rest := []) (w' := (none, [(8, (k_advanceMigrateScanner s))])) lk_0_110 pd_34 rfl oid_0 rfl rfl rfl rfl rfl rfl ⟨rfl, rfl, rfl, rfl, rfl⟩ d40_41 (c_k_advanceMigrateScanner s) ?_
      refine go_aloadN (pc := 44) d40_44 rfl ?_
      refine go_priv (pc := 45) (i := 0) (as := []) (rest := []) (w' := (none, [(8, (k_retreatFreeScanner (k_advanceMigrateScanner s)))])) lk_0_113 pd_36 rfl oid_0 rfl rfl rfl rfl rfl rfl ⟨rfl, rfl, rfl, rfl, rfl⟩ d40_45 (c_k_retreatFreeScanner (k_advanceMigrateScanner s)) ?_
      refine go_aloadN (pc := 48) d40_48 rfl ?_
      refine go_priv (pc := 49) (i := 0) (as := []) (rest := []) (w' := (none, [(8, (k_retreatFreeScanner (k_advanceMigrateScanner s)))])) lk_0_116 pd_37 rfl oid_0 rfl rfl rfl rfl rfl rfl ⟨rfl, rfl, rfl, rfl, rfl⟩ d40_49 (c_k_scannersDone (k_retreatFreeScanner (k_advanceMigrateScanner s))) ?_
      by_cases h2 : (k_scannersDone (k_retreatFreeScanner (k_advanceMigrateScanner s))) = 0
      · replace hf := (if_pos h2).symm.trans hf
        refine go_ifY (pc := 52) (pc' := 58) d40_52 (XT.i0_eq_t h2) j_52_6 ?_
        refine go_aloadN (pc := 58) d40_58 rfl (go_aloadN (pc := 59) d40_59 rfl (go_getI (pc := 60) fs_104 hm_40 d40_60 (go_aloadN (pc := 63) d40_63 rfl (go_getI (pc := 64) fs_107 hm_40 d40_64 ?_))))
        obtain ⟨r67, e3, hf⟩ := Option.bind_eq_some_iff.mp hf
        refine go_priv (pc := 67) (i := 0) (as := [.int (gI (k_retreatFreeScanner (k_advanceMigrateScanner s)) 9), .int (gI (k_retreatFreeScanner (k_advanceMigrateScanner s)) 10)]) (rest := []) (w' := (none, [(8, r67)])) lk_0_120 pd_39 rfl oid_0 rfl rfl rfl rfl rfl rfl ⟨rfl, rfl, rfl, rfl, rfl⟩ d40_67 (c_k_migrateFrame (gI (k_retreatFreeScanner (k_advanceMigrateScanner s)) 9) (gI (k_retreatFreeScanner (k_advanceMigrateScanner s)) 10) (k_retreatFreeScanner (k_advanceMigrateScanner s)) _ e3) ?_
        refine go_aloadN (pc := 70) d40_70 rfl (go_aloadN (pc := 71) d40_71 rfl (go_getI (pc := 72) fs_101 hm_40 d40_72 (go_iconst (pc := 75) d40_75 ci_1 (go_iadd (pc := 76) d40_76 (go_putI (pc := 77) fs_101 hm_40 (wr_8 _) hn_40 d40_77 (go_aloadN (pc := 80) d40_80 rfl (go_aloadN (pc := 81) d40_81 rfl ?_)))))))
        refine go_getI (pc := 82) fs_104 hm_40 d40_82 (go_iconst (pc := 85) d40_85 ci_1 (go_iadd (pc := 86) d40_86 (go_putI (pc := 87) fs_104 hm_40 (wr_9 _) hn_40 d40_87 (go_aloadN (pc := 90) d40_90 rfl (go_aloadN (pc := 91) d40_91 rfl (go_getI (pc := 92) fs_107 hm_40 d40_92 (go_iconst (pc := 95) d40_95 ci_1 ?_)))))))
        refine go_isub (pc := 96) d40_96 (go_putI (pc := 97) fs_107 hm_40 (wr_10 _) hn_40 d40_97 (go_iinc (pc := 100) (L' := [.val (.ref 1), x1, .val (.int (v2 + (1 : Int32)))]) d40_100 rfl ci_1 rfl (go_goto (pc := 103) (pc' := 34) d40_103 j_103_m69 ?_)))
        exact ih (v2 + (1 : Int32)) (sI (sI (sI r67 8 ((gI r67 8) + (1 : Int32))) 9 ((gI r67 9) + (1 : Int32))) 10 ((gI r67 10) - (1 : Int32))) x1 hx1 _ hf
      · replace hf := (if_neg h2).symm.trans hf
        refine go_ifN (pc := 52) d40_52 (XT.i0_eq_f h2) ?_
        refine go_goto (pc := 55) (pc' := 106) d40_55 j_55_51 (go_aloadN (pc := 106) d40_106 rfl (go_getI (pc := 107) fs_101 hm_40 d40_107 ?_))
        cases hf
        exact go_iret (pc := 110) rfl d40_110
set_option maxRecDepth 65536 in
set_option maxHeartbeats 4000000 in
theorem k_compact_ok  : ∀ (v1 : Int32) (s : S)  (o : Int32 × S), k_compact v1 s = some o → Go PP m40 0 [.val (.ref 1), .val (.int v1), .unset] [] (none, [(8, s)]) (some (.int o.1), (none, [(8, o.2)])) := by
  intro v1 s o hf
  unfold k_compact at hf
  refine go_aloadN (pc := 0) d40_0 rfl (go_aloadN (pc := 1) d40_1 rfl (go_iloadN (pc := 2) d40_2 rfl (go_iconst (pc := 3) d40_3 ci_0 (go_bipush (pc := 4) d40_4 cb_64 ?_))))
  refine go_priv (pc := 6) (i := 0) (as := [.int v1, .int (0 : Int32), .int (64 : Int32)]) (rest := [.ref 1]) (w' := (none, [(8, s)])) lk_0_36 pd_2 rfl oid_0 rfl rfl rfl rfl rfl rfl ⟨rfl, rfl, rfl, rfl, rfl⟩ d40_6 (c_k_clampInt v1 (0 : Int32) (64 : Int32) s) ?_
  refine go_putI (pc := 9) fs_98 hm_40 (wr_7 _) hn_40 d40_9 (go_aloadN (pc := 12) d40_12 rfl (go_iconst (pc := 13) d40_13 ci_0 (go_putI (pc := 14) fs_101 hm_40 (wr_8 _) hn_40 d40_14 (go_aloadN (pc := 17) d40_17 rfl (go_iconst (pc := 18) d40_18 ci_0 (go_putI (pc := 19) fs_104 hm_40 (wr_9 _) hn_40 d40_19 (go_aloadN (pc := 22) d40_22 rfl ?_)))))))
  refine go_aloadN (pc := 23) d40_23 rfl (go_getI (pc := 24) fs_40 hm_40 d40_24 (go_iconst (pc := 27) d40_27 ci_1 (go_isub (pc := 28) d40_28 (go_putI (pc := 29) fs_107 hm_40 (wr_10 _) hn_40 d40_29 (go_iconst (pc := 32) d40_32 ci_0 (go_istoreN (pc := 33) (L' := [.val (.ref 1), .val (.int v1), .val (.int (0 : Int32))]) d40_33 rfl ?_))))))
  exact k_compact_34_ok BIG (0 : Int32) (sI (sI (sI (sI s 7 (k_clampInt v1 (0 : Int32) (64 : Int32))) 8 (0 : Int32)) 9 (0 : Int32)) 10 ((gI s 0) - (1 : Int32))) (.val (.int v1)) (Or.inr ⟨_, rfl, rfl⟩) _ hf
theorem c_k_compact (v1 : Int32) (s : S) (o : Int32 × S) (hf : k_compact v1 s = some o) : Call PP m40 [.ref 1, .int v1] (none, [(8, s)]) (some (.int o.1), (none, [(8, o.2)])) := call_of_go pl_0 rfl (fun h => nomatch h) (k_compact_ok v1 s   _ hf)
set_option maxRecDepth 65536 in
set_option maxHeartbeats 4000000 in
theorem k_bitCount_34_ok  {s : S} : ∀ (v3 : Int64)  (x1 : Slot) (x2 : Slot) (hx1 : k2 x1 x2) (o : Int32), k_bitCount_34 v3 = o → Go PP m42 34 [.val (.ref 1), x1, x2, .val (.long v3), .second] [] (none, [(8, s)]) (some (.int o), (none, [(8, s)])) := by
  intro v3 x1 x2 hx1 o hf
  unfold k_bitCount_34 at hf
  refine go_lloadN (pc := 34) d42_34 rfl (go_ldc2 (pc := 35) (u := (72340172838076673 : Int64)) d42_35 (List.mem_of_getElem? (i := 178) rfl) (go_lmul (pc := 38) d42_38 (go_bipush (pc := 39) d42_39 cb_56 (go_lushr (pc := 41) d42_41 (go_l2i (pc := 42) d42_42 ?_)))))
  cases hf
  exact go_iret (pc := 43) rfl d42_43
set_option maxRecDepth 65536 in
set_option maxHeartbeats 4000000 in
theorem k_bitCount_ok  {s : S} : ∀ (v1 : Int64)   (o : Int32), k_bitCount v1 = o → Go PP m42 0 [.val (.ref 1), .val (.long v1), .second, .unset, .unset] [] (none, [(8, s)]) (some (.int o), (none, [(8, s)])) := by
  intro v1 o hf
  unfold k_bitCount at hf
  refine go_lloadN (pc := 0) d42_0 rfl (go_lloadN (pc := 1) d42_1 rfl (go_iconst (pc := 2) d42_2 ci_1 (go_lushr (pc := 3) d42_3 (go_ldc2 (pc := 4) (u := (6148914691236517205 : Int64)) d42_4 (List.mem_of_getElem? (i := 175) rfl) (go_land (pc := 7) d42_7 (go_lsub (pc := 8) d42_8 (go_lstoreN (pc := 9) (L' := [.val (.ref 1), .val (.long v1), .second, .val (.long (v1 - ((XT.ushrL v1 (1 : Int32)) &&& (6148914691236517205 : Int64)))), .second]) d42_9 rfl ?_)))))))
  refine go_lloadN (pc := 10) d42_10 rfl (go_ldc2 (pc := 11) (u := (3689348814741910323 : Int64)) d42_11 (List.mem_of_getElem? (i := 176) rfl) (go_land (pc := 14) d42_14 (go_lloadN (pc := 15) d42_15 rfl (go_iconst (pc := 16) d42_16 ci_2 (go_lushr (pc := 17) d42_17 (go_ldc2 (pc := 18) (u := (3689348814741910323 : Int64)) d42_18 (List.mem_of_getElem? (i := 176) rfl) (go_land (pc := 21) d42_21 ?_)))))))
  refine go_ladd (pc := 22) d42_22 (go_lstoreN (pc := 23) (L' := [.val (.ref 1), .val (.long v1), .second, .val (.long (((v1 - ((XT.ushrL v1 (1 : Int32)) &&& (6148914691236517205 : Int64))) &&& (3689348814741910323 : Int64)) + ((XT.ushrL (v1 - ((XT.ushrL v1 (1 : Int32)) &&& (6148914691236517205 : Int64))) (2 : Int32)) &&& (3689348814741910323 : Int64)))), .second]) d42_23 rfl (go_lloadN (pc := 24) d42_24 rfl (go_lloadN (pc := 25) d42_25 rfl (go_iconst (pc := 26) d42_26 ci_4 (go_lushr (pc := 27) d42_27 (go_ladd (pc := 28) d42_28 (go_ldc2 (pc := 29) (u := (1085102592571150095 : Int64)) d42_29 (List.mem_of_getElem? (i := 177) rfl) ?_)))))))
  refine go_land (pc := 32) d42_32 (go_lstoreN (pc := 33) (L' := [.val (.ref 1), .val (.long v1), .second, .val (.long (((((v1 - ((XT.ushrL v1 (1 : Int32)) &&& (6148914691236517205 : Int64))) &&& (3689348814741910323 : Int64)) + ((XT.ushrL (v1 - ((XT.ushrL v1 (1 : Int32)) &&& (6148914691236517205 : Int64))) (2 : Int32)) &&& (3689348814741910323 : Int64))) + (XT.ushrL (((v1 - ((XT.ushrL v1 (1 : Int32)) &&& (6148914691236517205 : Int64))) &&& (3689348814741910323 : Int64)) + ((XT.ushrL (v1 - ((XT.ushrL v1 (1 : Int32)) &&& (6148914691236517205 : Int64))) (2 : Int32)) &&& (3689348814741910323 : Int64))) (4 : Int32))) &&& (1085102592571150095 : Int64))), .second]) d42_33 rfl ?_)
  exact k_bitCount_34_ok (((((v1 - ((XT.ushrL v1 (1 : Int32)) &&& (6148914691236517205 : Int64))) &&& (3689348814741910323 : Int64)) + ((XT.ushrL (v1 - ((XT.ushrL v1 (1 : Int32)) &&& (6148914691236517205 : Int64))) (2 : Int32)) &&& (3689348814741910323 : Int64))) + (XT.ushrL (((v1 - ((XT.ushrL v1 (1 : Int32)) &&& (6148914691236517205 : Int64))) &&& (3689348814741910323 : Int64)) + ((XT.ushrL (v1 - ((XT.ushrL v1 (1 : Int32)) &&& (6148914691236517205 : Int64))) (2 : Int32)) &&& (3689348814741910323 : Int64))) (4 : Int32))) &&& (1085102592571150095 : Int64)) (.val (.long v1)) .second (Or.inr ⟨_, rfl, rfl⟩) _ hf
theorem c_k_bitCount (v1 : Int64) (s : S) : Call PP m42 [.ref 1, .long v1] (none, [(8, s)]) (some (.int (k_bitCount v1)), (none, [(8, s)])) := call_of_go pl_0 rfl (fun h => nomatch h) (k_bitCount_ok v1   _ rfl)
set_option maxRecDepth 65536 in
set_option maxHeartbeats 4000000 in
theorem k_freeCount_ok  : ∀  (s : S)  (o : Int32), k_freeCount s = o → Go PP m43 0 [.val (.ref 1)] [] (none, [(8, s)]) (some (.int o), (none, [(8, s)])) := by
  intro s o hf
  unfold k_freeCount at hf
  refine go_aloadN (pc := 0) d43_0 rfl (go_aloadN (pc := 1) d43_1 rfl (go_getJ (pc := 2) fs_54 hm_43 d43_2 ?_))
  refine go_priv (pc := 5) (i := 0) (as := [.long (gL s 2)]) (rest := []) (w' := (none, [(8, s)])) lk_0_123 pd_42 rfl oid_0 rfl rfl rfl rfl rfl rfl ⟨rfl, rfl, rfl, rfl, rfl⟩ d43_5 (c_k_bitCount (gL s 2) s) ?_
  cases hf
  exact go_iret (pc := 8) rfl d43_8
theorem c_k_freeCount (s : S) : Call PP m43 [.ref 1] (none, [(8, s)]) (some (.int (k_freeCount s)), (none, [(8, s)])) := call_of_go pl_0 rfl (fun h => nomatch h) (k_freeCount_ok s   _ rfl)
set_option maxRecDepth 65536 in
set_option maxHeartbeats 4000000 in
theorem k_read_ok  : ∀ (v1 : Int32) (v2 : Int32) (s : S)  (o : Int32), k_read v1 v2 s = some o → Go PP m44 0 [.val (.ref 1), .val (.int v1), .val (.int v2), .unset] [] (none, [(8, s)]) (some (.int o), (none, [(8, s)])) := by
  intro v1 v2 s o hf
  unfold k_read at hf
  refine go_aloadN (pc := 0) d44_0 rfl (go_iloadN (pc := 1) d44_1 rfl (go_iloadN (pc := 2) d44_2 rfl ?_))
  obtain ⟨r3, e1, hf⟩ := Option.bind_eq_some_iff.mp hf
  refine go_priv (pc := 3) (i := 0) (as := [.int v1, .int v2]) (rest := []) (w' := (none, [(8, s)])) lk_0_88 pd_21 rfl oid_0 rfl rfl rfl rfl rfl rfl ⟨rfl, rfl, rfl, rfl, rfl⟩ d44_3 (c_k_mappedFrame v1 v2 s _ e1) ?_
  refine go_istoreN (pc := 6) (L' := [.val (.ref 1), .val (.int v1), .val (.int v2), .val (.int r3)]) d44_6 rfl (go_iloadN (pc := 7) d44_7 rfl ?_)
  by_cases h2 : r3 < 0
  · replace hf := (if_pos h2).symm.trans hf
    refine go_ifN (pc := 8) d44_8 (XT.i0_ge_f h2) ?_
    refine go_iconst (pc := 11) d44_11 ci_0 ?_
    cases hf
    exact go_iret (pc := 12) rfl d44_12
  · replace hf := (if_neg h2).symm.trans hf
    refine go_ifY (pc := 8) (pc' := 13) d44_8 (XT.i0_ge_t h2) j_8_5 ?_
    refine go_aloadN (pc := 13) d44_13 rfl (go_getA (pc := 14) fa_13 hm_44 d44_14 rfl (go_iloadN (pc := 17) d44_17 rfl ?_))
    obtain ⟨a18, e3, hf⟩ := Option.bind_eq_some_iff.mp hf
    refine go_iaload (pc := 18) (q := 1) ar_1 rfl e3 d44_18 ?_
    cases hf
    exact go_iret (pc := 19) rfl d44_19
theorem c_k_read (v1 : Int32) (v2 : Int32) (s : S) (o : Int32) (hf : k_read v1 v2 s = some o) : Call PP m44 [.ref 1, .int v1, .int v2] (none, [(8, s)]) (some (.int o), (none, [(8, s)])) := call_of_go pl_0 rfl (fun h => nomatch h) (k_read_ok v1 v2 s   _ hf)
set_option maxRecDepth 65536 in
set_option maxHeartbeats 4000000 in
theorem k_frameState_ok  : ∀ (v1 : Int32) (s : S)  (o : Int32), k_frameState v1 s = some o → Go PP m45 0 [.val (.ref 1), .val (.int v1)] [] (none, [(8, s)]) (some (.int o), (none, [(8, s)])) := by
  intro v1 s o hf
  unfold k_frameState at hf
  refine go_aloadN (pc := 0) d45_0 rfl (go_iloadN (pc := 1) d45_1 rfl ?_)
  refine go_priv (pc := 2) (i := 0) (as := [.int v1]) (rest := []) (w' := (none, [(8, s)])) lk_0_62 pd_10 rfl oid_0 rfl rfl rfl rfl rfl rfl ⟨rfl, rfl, rfl, rfl, rfl⟩ d45_2 (c_k_frameInRange v1 s) ?_
  by_cases h1 : (k_frameInRange v1 s) = 0
  · replace hf := (if_pos h1).symm.trans hf
    refine go_ifN (pc := 5) d45_5 (XT.i0_ne_f h1) ?_
    refine go_iconst (pc := 8) d45_8 ci_m1 ?_
    cases hf
    exact go_iret (pc := 9) rfl d45_9
  · replace hf := (if_neg h1).symm.trans hf
    refine go_ifY (pc := 5) (pc' := 10) d45_5 (XT.i0_ne_t h1) j_5_5 ?_
    refine go_aloadN (pc := 10) d45_10 rfl (go_getA (pc := 11) fa_7 hm_45 d45_11 rfl (go_iloadN (pc := 14) d45_14 rfl ?_))
    obtain ⟨a15, e2, hf⟩ := Option.bind_eq_some_iff.mp hf
    refine go_baload (pc := 15) (q := 0) ar_0 (by decide) rfl e2 d45_15 ?_
    cases hf
    exact go_iret (pc := 16) rfl d45_16
theorem c_k_frameState (v1 : Int32) (s : S) (o : Int32) (hf : k_frameState v1 s = some o) : Call PP m45 [.ref 1, .int v1] (none, [(8, s)]) (some (.int o), (none, [(8, s)])) := call_of_go pl_0 rfl (fun h => nomatch h) (k_frameState_ok v1 s   _ hf)
set_option maxRecDepth 65536 in
set_option maxHeartbeats 4000000 in
theorem k_frameValue_ok  : ∀ (v1 : Int32) (s : S)  (o : Int32), k_frameValue v1 s = some o → Go PP m46 0 [.val (.ref 1), .val (.int v1), .unset] [] (none, [(8, s)]) (some (.int o), (none, [(8, s)])) := by
  intro v1 s o hf
  unfold k_frameValue at hf
  refine go_aloadN (pc := 0) d46_0 rfl (go_iloadN (pc := 1) d46_1 rfl ?_)
  refine go_priv (pc := 2) (i := 0) (as := [.int v1]) (rest := []) (w' := (none, [(8, s)])) lk_0_62 pd_10 rfl oid_0 rfl rfl rfl rfl rfl rfl ⟨rfl, rfl, rfl, rfl, rfl⟩ d46_2 (c_k_frameInRange v1 s) ?_
  by_cases h1 : (k_frameInRange v1 s) = 0
  · replace hf := (if_pos h1).symm.trans hf
    refine go_ifN (pc := 5) d46_5 (XT.i0_ne_f h1) ?_
    refine go_iconst (pc := 8) d46_8 ci_0 ?_
    cases hf
    exact go_iret (pc := 9) rfl d46_9
  · replace hf := (if_neg h1).symm.trans hf
    refine go_ifY (pc := 5) (pc' := 10) d46_5 (XT.i0_ne_t h1) j_5_5 ?_
    refine go_aloadN (pc := 10) d46_10 rfl (go_getA (pc := 11) fa_7 hm_46 d46_11 rfl (go_iloadN (pc := 14) d46_14 rfl ?_))
    obtain ⟨a15, e2, hf⟩ := Option.bind_eq_some_iff.mp hf
    refine go_baload (pc := 15) (q := 0) ar_0 (by decide) rfl e2 d46_15 ?_
    refine go_istoreN (pc := 16) (L' := [.val (.ref 1), .val (.int v1), .val (.int a15)]) d46_16 rfl (go_iloadN (pc := 17) d46_17 rfl ?_)
    by_cases h3 : a15 = 0
    · replace hf := (if_pos h3).symm.trans hf
      refine go_ifY (pc := 18) (pc' := 26) d46_18 (XT.i0_eq_t h3) j_18_8 ?_
      refine go_iconst (pc := 26) d46_26 ci_0 ?_
      cases hf
      exact go_iret (pc := 27) rfl d46_27
    · replace hf := (if_neg h3).symm.trans hf
      refine go_ifN (pc := 18) d46_18 (XT.i0_eq_f h3) ?_
      refine go_iloadN (pc := 21) d46_21 rfl (go_iconst (pc := 22) d46_22 ci_3 ?_)
      by_cases h4 : a15 = (3 : Int32)
      · replace hf := (if_pos h4).symm.trans hf
        refine go_icN (pc := 23) d46_23 (XT.ii_ne_f h4) ?_
        refine go_iconst (pc := 26) d46_26 ci_0 ?_
        cases hf
        exact go_iret (pc := 27) rfl d46_27
      · replace hf := (if_neg h4).symm.trans hf
        refine go_icY (pc := 23) (pc' := 28) d46_23 (XT.ii_ne_t h4) j_23_5 ?_
        refine go_aloadN (pc := 28) d46_28 rfl (go_getA (pc := 29) fa_13 hm_46 d46_29 rfl (go_iloadN (pc := 32) d46_32 rfl ?_))
        obtain ⟨a33, e5, hf⟩ := Option.bind_eq_some_iff.mp hf
        refine go_iaload (pc := 33) (q := 1) ar_1 rfl e5 d46_33 ?_
        cases hf
        exact go_iret (pc := 34) rfl d46_34
theorem c_k_frameValue (v1 : Int32) (s : S) (o : Int32) (hf : k_frameValue v1 s = some o) : Call PP m46 [.ref 1, .int v1] (none, [(8, s)]) (some (.int o), (none, [(8, s)])) := call_of_go pl_0 rfl (fun h => nomatch h) (k_frameValue_ok v1 s   _ hf)
set_option maxRecDepth 65536 in
set_option maxHeartbeats 4000000 in
theorem k_mapCount_ok  : ∀ (v1 : Int32) (s : S)  (o : Int32), k_mapCount v1 s = some o → Go PP m47 0 [.val (.ref 1), .val (.int v1)] [] (none, [(8, s)]) (some (.int o), (none, [(8, s)])) := by
  intro v1 s o hf
  unfold k_mapCount at hf
  refine go_aloadN (pc := 0) d47_0 rfl (go_iloadN (pc := 1) d47_1 rfl ?_)
  refine go_priv (pc := 2) (i := 0) (as := [.int v1]) (rest := []) (w' := (none, [(8, s)])) lk_0_62 pd_10 rfl oid_0 rfl rfl rfl rfl rfl rfl ⟨rfl, rfl, rfl, rfl, rfl⟩ d47_2 (c_k_frameInRange v1 s) ?_
  by_cases h1 : (k_frameInRange v1 s) = 0
  · replace hf := (if_pos h1).symm.trans hf
    refine go_ifN (pc := 5) d47_5 (XT.i0_ne_f h1) ?_
    refine go_iconst (pc := 8) d47_8 ci_0 ?_
    cases hf
    exact go_iret (pc := 9) rfl d47_9
  · replace hf := (if_neg h1).symm.trans hf
    refine go_ifY (pc := 5) (pc' := 10) d47_5 (XT.i0_ne_t h1) j_5_5 ?_
    refine go_aloadN (pc := 10) d47_10 rfl (go_getA (pc := 11) fa_17 hm_47 d47_11 rfl (go_iloadN (pc := 14) d47_14 rfl ?_))
    obtain ⟨a15, e2, hf⟩ := Option.bind_eq_some_iff.mp hf
    refine go_iaload (pc := 15) (q := 2) ar_2 rfl e2 d47_15 ?_
    cases hf
    exact go_iret (pc := 16) rfl d47_16
theorem c_k_mapCount (v1 : Int32) (s : S) (o : Int32) (hf : k_mapCount v1 s = some o) : Call PP m47 [.ref 1, .int v1] (none, [(8, s)]) (some (.int o), (none, [(8, s)])) := call_of_go pl_0 rfl (fun h => nomatch h) (k_mapCount_ok v1 s   _ hf)
set_option maxRecDepth 65536 in
set_option maxHeartbeats 4000000 in
theorem h_cell_ok_n0  : ∀ (v1 : Int32) (q : List Int32)  (o : Int32), h_cell v1 q = some o → Go PP m0 0 [.val (.ref 0), .val (.int v1)] [] (some q, []) (some (.int o), (some q, [])) := by
  intro v1 q o hf
  unfold h_cell at hf
  refine go_iloadN (pc := 0) d0_0 rfl (go_aloadN (pc := 1) d0_1 rfl (go_slen (pc := 2) d0_2 ?_))
  by_cases h1 : v1 < q.length.toInt32
  · replace hf := (if_pos h1).symm.trans hf
    refine go_icN (pc := 3) d0_3 (XT.ii_ge_f h1) ?_
    refine go_aloadN (pc := 6) d0_6 rfl (go_iloadN (pc := 7) d0_7 rfl ?_)
    obtain ⟨a8, e2, hf⟩ := Option.bind_eq_some_iff.mp hf
    refine go_sload (pc := 8) e2 d0_8 ?_
    refine go_goto (pc := 9) (pc' := 13) d0_9 j_9_4 ?_
    cases hf
    exact go_iret (pc := 13) rfl d0_13
  · replace hf := (if_neg h1).symm.trans hf
    refine go_icY (pc := 3) (pc' := 12) d0_3 (XT.ii_ge_t h1) j_3_9 ?_
    refine go_iconst (pc := 12) d0_12 ci_0 ?_
    cases hf
    exact go_iret (pc := 13) rfl d0_13
theorem c_h_cell_n0 (v1 : Int32) (q : List Int32) (o : Int32) (hf : h_cell v1 q = some o) : Call PP m0 [.ref 0, .int v1] (some q, []) (some (.int o), (some q, [])) := call_of_go pl_1 rfl (fun h => nomatch h) (h_cell_ok_n0 v1 q   _ hf)
set_option maxRecDepth 65536 in
set_option maxHeartbeats 4000000 in
theorem h_mod_ok_n0  {q : List Int32} : ∀ (v0 : Int32) (v1 : Int32)   (o : Int32), h_mod v0 v1 = some o → Go PP m1 0 [.val (.int v0), .val (.int v1), .unset] [] (some q, []) (some (.int o), (some q, [])) := by
  intro v0 v1 o hf
  unfold h_mod at hf
  refine go_iloadN (pc := 0) d1_0 rfl (go_iloadN (pc := 1) d1_1 rfl ?_)
  by_cases e1 : v1 = 0
  · exact nomatch ((if_pos e1).symm.trans hf)
  replace hf := (if_neg e1).symm.trans hf
  refine go_irem (pc := 2) d1_2 e1 ?_
  refine go_istoreN (pc := 3) (L' := [.val (.int v0), .val (.int v1), .val (.int (v0 % v1))]) d1_3 rfl (go_iloadN (pc := 4) d1_4 rfl ?_)
  by_cases h2 : (v0 % v1) < 0
  · replace hf := (if_pos h2).symm.trans hf
    refine go_ifN (pc := 5) d1_5 (XT.i0_ge_f h2) ?_
    refine go_iloadN (pc := 8) d1_8 rfl (go_iloadN (pc := 9) d1_9 rfl (go_iadd (pc := 10) d1_10 (go_goto (pc := 11) (pc' := 15) d1_11 j_11_4 ?_)))
    cases hf
    exact go_iret (pc := 15) rfl d1_15
  · replace hf := (if_neg h2).symm.trans hf
    refine go_ifY (pc := 5) (pc' := 14) d1_5 (XT.i0_ge_t h2) j_5_9 ?_
    refine go_iloadN (pc := 14) d1_14 rfl ?_
    cases hf
    exact go_iret (pc := 15) rfl d1_15
theorem c_h_mod_n0 (v0 : Int32) (v1 : Int32) (q : List Int32) (o : Int32) (hf : h_mod v0 v1 = some o) : Call PP m1 [.int v0, .int v1] (some q, []) (some (.int o), (some q, [])) := call_of_go pl_1 rfl (fun h => nomatch h) (h_mod_ok_n0 v0 v1   _ hf)
set_option maxRecDepth 65536 in
set_option maxHeartbeats 4000000 in
theorem h_cell_ok_n2  {y0 : S} {y1 : S} : ∀ (v1 : Int32) (q : List Int32)  (o : Int32), h_cell v1 q = some o → Go PP m0 0 [.val (.ref 0), .val (.int v1)] [] (some q, [(8, y0), (8, y1)]) (some (.int o), (some q, [(8, y0), (8, y1)])) := by
  intro v1 q o hf
  unfold h_cell at hf
  refine go_iloadN (pc := 0) d0_0 rfl (go_aloadN (pc := 1) d0_1 rfl (go_slen (pc := 2) d0_2 ?_))
  by_cases h1 : v1 < q.length.toInt32
  · replace hf := (if_pos h1).symm.trans hf
    refine go_icN (pc := 3) d0_3 (XT.ii_ge_f h1) ?_
    refine go_aloadN (pc := 6) d0_6 rfl (go_iloadN (pc := 7) d0_7 rfl ?_)
    obtain ⟨a8, e2, hf⟩ := Option.bind_eq_some_iff.mp hf
    refine go_sload (pc := 8) e2 d0_8 ?_
    refine go_goto (pc := 9) (pc' := 13) d0_9 j_9_4 ?_
    cases hf
    exact go_iret (pc := 13) rfl d0_13
  · replace hf := (if_neg h1).symm.trans hf
    refine go_icY (pc := 3) (pc' := 12) d0_3 (XT.ii_ge_t h1) j_3_9 ?_
    refine go_iconst (pc := 12) d0_12 ci_0 ?_
    cases hf
    exact go_iret (pc := 13) rfl d0_13
theorem c_h_cell_n2 (v1 : Int32) (q : List Int32) (y0 : S) (y1 : S) (o : Int32) (hf : h_cell v1 q = some o) : Call PP m0 [.ref 0, .int v1] (some q, [(8, y0), (8, y1)]) (some (.int o), (some q, [(8, y0), (8, y1)])) := call_of_go pl_1 rfl (fun h => nomatch h) (h_cell_ok_n2 v1 q   _ hf)
set_option maxRecDepth 65536 in
set_option maxHeartbeats 4000000 in
theorem h_mod_ok_n2  {y0 : S} {y1 : S} {q : List Int32} : ∀ (v0 : Int32) (v1 : Int32)   (o : Int32), h_mod v0 v1 = some o → Go PP m1 0 [.val (.int v0), .val (.int v1), .unset] [] (some q, [(8, y0), (8, y1)]) (some (.int o), (some q, [(8, y0), (8, y1)])) := by
  intro v0 v1 o hf
  unfold h_mod at hf
  refine go_iloadN (pc := 0) d1_0 rfl (go_iloadN (pc := 1) d1_1 rfl ?_)
  by_cases e1 : v1 = 0
  · exact nomatch ((if_pos e1).symm.trans hf)
  replace hf := (if_neg e1).symm.trans hf
  refine go_irem (pc := 2) d1_2 e1 ?_
  refine go_istoreN (pc := 3) (L' := [.val (.int v0), .val (.int v1), .val (.int (v0 % v1))]) d1_3 rfl (go_iloadN (pc := 4) d1_4 rfl ?_)
  by_cases h2 : (v0 % v1) < 0
  · replace hf := (if_pos h2).symm.trans hf
    refine go_ifN (pc := 5) d1_5 (XT.i0_ge_f h2) ?_
    refine go_iloadN (pc := 8) d1_8 rfl (go_iloadN (pc := 9) d1_9 rfl (go_iadd (pc := 10) d1_10 (go_goto (pc := 11) (pc' := 15) d1_11 j_11_4 ?_)))
    cases hf
    exact go_iret (pc := 15) rfl d1_15
  · replace hf := (if_neg h2).symm.trans hf
    refine go_ifY (pc := 5) (pc' := 14) d1_5 (XT.i0_ge_t h2) j_5_9 ?_
    refine go_iloadN (pc := 14) d1_14 rfl ?_
    cases hf
    exact go_iret (pc := 15) rfl d1_15
theorem c_h_mod_n2 (v0 : Int32) (v1 : Int32) (q : List Int32) (y0 : S) (y1 : S) (o : Int32) (hf : h_mod v0 v1 = some o) : Call PP m1 [.int v0, .int v1] (some q, [(8, y0), (8, y1)]) (some (.int o), (some q, [(8, y0), (8, y1)])) := call_of_go pl_1 rfl (fun h => nomatch h) (h_mod_ok_n2 v0 v1   _ hf)
set_option maxRecDepth 65536 in
set_option maxHeartbeats 4000000 in
theorem h_apply_22_ok_0_n2  {y1 : S} {q : List Int32} : ∀ (v4 : Int32) (v7 : Int32) (v8 : Int32) (t0 : S) (x1 : Slot) (x2 : Slot) (x3 : Slot) (x5 : Slot) (x6 : Slot) (hx1 : k1 x1) (hx2 : k1 x2) (hx3 : k1 x3) (hx5 : k1 x5) (hx6 : k1 x6) (o : S), h_apply_22 v4 v7 v8 t0 = some o → Go PP m41 22 [.val (.ref 1), x1, x2, x3, .val (.int v4), x5, x6, .val (.int v7), .val (.int v8), .unset] [] (some q, [(8, t0), (8, y1)]) (none, (some q, [(8, o), (8, y1)])) := by
  intro v4 v7 v8 t0 x1 x2 x3 x5 x6 hx1 hx2 hx3 hx5 hx6 o hf
  unfold h_apply_22 at hf
  refine go_aloadN (pc := 22) d41_22 rfl (go_iload (pc := 23) d41_23 rfl (go_iload (pc := 25) d41_25 rfl (go_iload (pc := 27) d41_27 rfl ?_)))
  obtain ⟨r29, e1, hf⟩ := Option.bind_eq_some_iff.mp hf
  refine go_virt (pc := 29) (i := 0) (as := [.int v7, .int v8, .int v4]) (rest := []) (w' := (some q, [(8, r29.2), (8, y1)])) lk_1_13 pd_15 rfl oid_0 rfl rfl rfl rfl rfl rfl ⟨rfl, rfl, rfl, rfl, rfl⟩ d41_29 (c_k_mapNew v7 v8 v4 t0 _ e1) ?_
  refine go_pop (pc := 32) d41_32 (go_goto (pc := 33) (pc' := 224) d41_33 j_33_191 ?_)
  cases hf
  exact go_ret (pc := 224) rfl d41_224
set_option maxRecDepth 65536 in
set_option maxHeartbeats 4000000 in
theorem h_apply_ok_0_n2  {y1 : S} {q : List Int32} : ∀ (v1 : Int32) (v2 : Int32) (v3 : Int32) (v4 : Int32) (v5 : Int32) (v6 : Int32) (t0 : S)  (o : S), h_apply v1 v2 v3 v4 v5 v6 t0 = some o → Go PP m41 0 [.val (.ref 1), .val (.int v1), .val (.int v2), .val (.int v3), .val (.int v4), .val (.int v5), .val (.int v6), .unset, .unset, .unset] [] (some q, [(8, t0), (8, y1)]) (none, (some q, [(8, o), (8, y1)])) := by
  intro v1 v2 v3 v4 v5 v6 t0 o hf
  unfold h_apply at hf
  refine go_iloadN (pc := 0) d41_0 rfl (go_iconst (pc := 1) d41_1 ci_3 (go_iand (pc := 2) d41_2 (go_istore (pc := 3) (L' := [.val (.ref 1), .val (.int v1), .val (.int v2), .val (.int v3), .val (.int v4), .val (.int v5), .val (.int v6), .val (.int (v2 &&& (3 : Int32))), .unset, .unset]) d41_3 rfl (go_iloadN (pc := 5) d41_5 rfl (go_iload (pc := 6) d41_6 rfl ?_)))))
  obtain ⟨r8, e1, hf⟩ := Option.bind_eq_some_iff.mp hf
  refine go_stat (pc := 8) (as := [.int v3, .int v5]) (rest := []) (w' := (some q, [(8, t0), (8, y1)])) lk_1_7 pd_1 rfl rfl ⟨Nat.le_of_ble_eq_true rfl, Nat.le_of_ble_eq_true rfl⟩ ⟨rfl, rfl, rfl⟩ ⟨rfl, rfl, rfl, rfl, rfl⟩ d41_8 (c_h_mod_n2 v3 v5 q t0 y1 _ e1) ?_
  refine go_istore (pc := 11) (L' := [.val (.ref 1), .val (.int v1), .val (.int v2), .val (.int v3), .val (.int v4), .val (.int v5), .val (.int v6), .val (.int (v2 &&& (3 : Int32))), .val (.int r8), .unset]) d41_11 rfl (go_iloadN (pc := 13) d41_13 rfl ?_)
  by_cases h2 : v1 = 0
  · replace hf := (if_pos h2).symm.trans hf
    refine go_ifY (pc := 14) (pc' := 22) d41_14 (XT.i0_eq_t h2) j_14_8 ?_
    exact h_apply_22_ok_0_n2 v4 (v2 &&& (3 : Int32)) r8 t0 (.val (.int v1)) (.val (.int v2)) (.val (.int v3)) (.val (.int v5)) (.val (.int v6)) (Or.inr ⟨_, rfl, rfl⟩) (Or.inr ⟨_, rfl, rfl⟩) (Or.inr ⟨_, rfl, rfl⟩) (Or.inr ⟨_, rfl, rfl⟩) (Or.inr ⟨_, rfl, rfl⟩) _ hf
  · replace hf := (if_neg h2).symm.trans hf
    refine go_ifN (pc := 14) d41_14 (XT.i0_eq_f h2) ?_
    refine go_iloadN (pc := 17) d41_17 rfl (go_iconst (pc := 18) d41_18 ci_1 ?_)
    by_cases h3 : v1 = (1 : Int32)
    · replace hf := (if_pos h3).symm.trans hf
      refine go_icN (pc := 19) d41_19 (XT.ii_ne_f h3) ?_
      exact h_apply_22_ok_0_n2 v4 (v2 &&& (3 : Int32)) r8 t0 (.val (.int v1)) (.val (.int v2)) (.val (.int v3)) (.val (.int v5)) (.val (.int v6)) (Or.inr ⟨_, rfl, rfl⟩) (Or.inr ⟨_, rfl, rfl⟩) (Or.inr ⟨_, rfl, rfl⟩) (Or.inr ⟨_, rfl, rfl⟩) (Or.inr ⟨_, rfl, rfl⟩) _ hf
    · replace hf := (if_neg h3).symm.trans hf
      refine go_icY (pc := 19) (pc' := 36) d41_19 (XT.ii_ne_t h3) j_19_17 ?_
      refine go_iloadN (pc := 36) d41_36 rfl (go_iconst (pc := 37) d41_37 ci_2 ?_)
      by_cases h4 : v1 = (2 : Int32)
      · replace hf := (if_pos h4).symm.trans hf
        refine go_icN (pc := 38) d41_38 (XT.ii_ne_f h4) ?_
        refine go_aloadN (pc := 41) d41_41 rfl (go_iload (pc := 42) d41_42 rfl (go_iload (pc := 44) d41_44 rfl (go_iload (pc := 46) d41_46 rfl (go_iconst (pc := 48) d41_48 ci_3 (go_iand (pc := 49) d41_49 (go_iload (pc := 50) d41_50 rfl (go_iconst (pc := 52) d41_52 ci_2 ?_)))))))
        refine go_iushr (pc := 53) d41_53 (go_iload (pc := 54) d41_54 rfl ?_)
        obtain ⟨r56, e27, hf⟩ := Option.bind_eq_some_iff.mp hf
        refine go_stat (pc := 56) (as := [.int (XT.ushr v4 (2 : Int32)), .int v5]) (rest := [.int (v4 &&& (3 : Int32)), .int r8, .int (v2 &&& (3 : Int32)), .ref 1]) (w' := (some q, [(8, t0), (8, y1)])) lk_1_7 pd_1 rfl rfl ⟨Nat.le_of_ble_eq_true rfl, Nat.le_of_ble_eq_true rfl⟩ ⟨rfl, rfl, rfl⟩ ⟨rfl, rfl, rfl, rfl, rfl⟩ d41_56 (c_h_mod_n2 (XT.ushr v4 (2 : Int32)) v5 q t0 y1 _ e27) ?_
        obtain ⟨r59, e28, hf⟩ := Option.bind_eq_some_iff.mp hf
        refine go_virt (pc := 59) (i := 0) (as := [.int (v2 &&& (3 : Int32)), .int r8, .int (v4 &&& (3 : Int32)), .int r56]) (rest := []) (w' := (some q, [(8, r59.2), (8, y1)])) lk_1_19 pd_16 rfl oid_0 rfl rfl rfl rfl rfl rfl ⟨rfl, rfl, rfl, rfl, rfl⟩ d41_59 (c_k_share (v2 &&& (3 : Int32)) r8 (v4 &&& (3 : Int32)) r56 t0 _ e28) ?_
        refine go_pop (pc := 62) d41_62 (go_goto (pc := 63) (pc' := 224) d41_63 j_63_161 ?_)
        cases hf
        exact go_ret (pc := 224) rfl d41_224
      · replace hf := (if_neg h4).symm.trans hf
        refine go_icY (pc := 38) (pc' := 66) d41_38 (XT.ii_ne_t h4) j_38_28 ?_
        refine go_iloadN (pc := 66) d41_66 rfl (go_iconst (pc := 67) d41_67 ci_3 ?_)
        by_cases h5 : v1 = (3 : Int32)
        · replace hf := (if_pos h5).symm.trans hf
          refine go_icN (pc := 68) d41_68 (XT.ii_ne_f h5) ?_
          refine go_aloadN (pc := 71) d41_71 rfl (go_iload (pc := 72) d41_72 rfl (go_iload (pc := 74) d41_74 rfl ?_))
          obtain ⟨r76, e26, hf⟩ := Option.bind_eq_some_iff.mp hf
          refine go_virt (pc := 76) (i := 0) (as := [.int (v2 &&& (3 : Int32)), .int r8]) (rest := []) (w' := (some q, [(8, r76.2), (8, y1)])) lk_1_23 pd_20 rfl oid_0 rfl rfl rfl rfl rfl rfl ⟨rfl, rfl, rfl, rfl, rfl⟩ d41_76 (c_k_unmap (v2 &&& (3 : Int32)) r8 t0 _ e26) ?_
          refine go_pop (pc := 79) d41_79 (go_goto (pc := 80) (pc' := 224) d41_80 j_80_144 ?_)
          cases hf
          exact go_ret (pc := 224) rfl d41_224
        · replace hf := (if_neg h5).symm.trans hf
          refine go_icY (pc := 68) (pc' := 83) d41_68 (XT.ii_ne_t h5) j_68_15 ?_
          refine go_iloadN (pc := 83) d41_83 rfl (go_iconst (pc := 84) d41_84 ci_4 ?_)
          by_cases h6 : v1 = (4 : Int32)
          · replace hf := (if_pos h6).symm.trans hf
            refine go_icN (pc := 85) d41_85 (XT.ii_ne_f h6) ?_
            refine go_aloadN (pc := 88) d41_88 rfl (go_iload (pc := 89) d41_89 rfl (go_iload (pc := 91) d41_91 rfl (go_iload (pc := 93) d41_93 rfl ?_)))
            obtain ⟨r95, e25, hf⟩ := Option.bind_eq_some_iff.mp hf
            refine go_virt (pc := 95) (i := 0) (as := [.int (v2 &&& (3 : Int32)), .int r8, .int v4]) (rest := []) (w' := (some q, [(8, r95.2), (8, y1)])) lk_1_26 pd_22 rfl oid_0 rfl rfl rfl rfl rfl rfl ⟨rfl, rfl, rfl, rfl, rfl⟩ d41_95 (c_k_write (v2 &&& (3 : Int32)) r8 v4 t0 _ e25) ?_
            refine go_pop (pc := 98) d41_98 (go_goto (pc := 99) (pc' := 224) d41_99 j_99_125 ?_)
            cases hf
            exact go_ret (pc := 224) rfl d41_224
          · replace hf := (if_neg h6).symm.trans hf
            refine go_icY (pc := 85) (pc' := 102) d41_85 (XT.ii_ne_t h6) j_85_17 ?_
            refine go_iloadN (pc := 102) d41_102 rfl (go_iconst (pc := 103) d41_103 ci_5 ?_)
            by_cases h7 : v1 = (5 : Int32)
            · replace hf := (if_pos h7).symm.trans hf
              refine go_icN (pc := 104) d41_104 (XT.ii_ne_f h7) ?_
              refine go_aloadN (pc := 107) d41_107 rfl (go_aloadN (pc := 108) d41_108 rfl (go_iload (pc := 109) d41_109 rfl (go_iload (pc := 111) d41_111 rfl ?_)))
              obtain ⟨r113, e23, hf⟩ := Option.bind_eq_some_iff.mp hf
              refine go_virt (pc := 113) (i := 0) (as := [.int (v2 &&& (3 : Int32)), .int r8]) (rest := [.ref 1]) (w' := (some q, [(8, t0), (8, y1)])) lk_1_30 pd_23 rfl oid_0 rfl rfl rfl rfl rfl rfl ⟨rfl, rfl, rfl, rfl, rfl⟩ d41_113 (c_k_frameOf (v2 &&& (3 : Int32)) r8 t0 _ e23) ?_
              obtain ⟨r116, e24, hf⟩ := Option.bind_eq_some_iff.mp hf
              refine go_virt (pc := 116) (i := 0) (as := [.int r113]) (rest := []) (w' := (some q, [(8, r116.2), (8, y1)])) lk_1_33 pd_24 rfl oid_0 rfl rfl rfl rfl rfl rfl ⟨rfl, rfl, rfl, rfl, rfl⟩ d41_116 (c_k_pin r113 t0 _ e24) ?_
              refine go_pop (pc := 119) d41_119 (go_goto (pc := 120) (pc' := 224) d41_120 j_120_104 ?_)
              cases hf
              exact go_ret (pc := 224) rfl d41_224
            · replace hf := (if_neg h7).symm.trans hf
              refine go_icY (pc := 104) (pc' := 123) d41_104 (XT.ii_ne_t h7) j_104_19 ?_
              refine go_iloadN (pc := 123) d41_123 rfl (go_bipush (pc := 124) d41_124 cb_6 ?_)
              by_cases h8 : v1 = (6 : Int32)
              · replace hf := (if_pos h8).symm.trans hf
                refine go_icN (pc := 126) d41_126 (XT.ii_ne_f h8) ?_
                refine go_iloadN (pc := 129) d41_129 rfl (go_iconst (pc := 130) d41_130 ci_4 (go_iand (pc := 131) d41_131 ?_))
                by_cases h18 : (v2 &&& (4 : Int32)) = 0
                · replace hf := (if_pos h18).symm.trans hf
                  refine go_ifN (pc := 132) d41_132 (XT.i0_ne_f h18) ?_
                  refine go_aloadN (pc := 135) d41_135 rfl (go_aloadN (pc := 136) d41_136 rfl (go_iload (pc := 137) d41_137 rfl (go_iload (pc := 139) d41_139 rfl ?_)))
                  obtain ⟨r141, e21, hf⟩ := Option.bind_eq_some_iff.mp hf
                  refine go_virt (pc := 141) (i := 0) (as := [.int (v2 &&& (3 : Int32)), .int r8]) (rest := [.ref 1]) (w' := (some q, [(8, t0), (8, y1)])) lk_1_30 pd_23 rfl oid_0 rfl rfl rfl rfl rfl rfl ⟨rfl, rfl, rfl, rfl, rfl⟩ d41_141 (c_k_frameOf (v2 &&& (3 : Int32)) r8 t0 _ e21) ?_
                  obtain ⟨r144, e22, hf⟩ := Option.bind_eq_some_iff.mp hf
                  refine go_virt (pc := 144) (i := 0) (as := [.int r141]) (rest := []) (w' := (some q, [(8, r144.2), (8, y1)])) lk_1_37 pd_25 rfl oid_0 rfl rfl rfl rfl rfl rfl ⟨rfl, rfl, rfl, rfl, rfl⟩ d41_144 (c_k_unpin r141 t0 _ e22) ?_
                  refine go_pop (pc := 147) d41_147 (go_goto (pc := 148) (pc' := 224) d41_148 j_148_76 ?_)
                  cases hf
                  exact go_ret (pc := 224) rfl d41_224
                · replace hf := (if_neg h18).symm.trans hf
                  refine go_ifY (pc := 132) (pc' := 151) d41_132 (XT.i0_ne_t h18) j_132_19 ?_
                  refine go_aloadN (pc := 151) d41_151 rfl (go_iloadN (pc := 152) d41_152 rfl (go_iload (pc := 153) d41_153 rfl ?_))
                  obtain ⟨r155, e19, hf⟩ := Option.bind_eq_some_iff.mp hf
                  refine go_stat (pc := 155) (as := [.int v3, .int v6]) (rest := [.ref 1]) (w' := (some q, [(8, t0), (8, y1)])) lk_1_7 pd_1 rfl rfl ⟨Nat.le_of_ble_eq_true rfl, Nat.le_of_ble_eq_true rfl⟩ ⟨rfl, rfl, rfl⟩ ⟨rfl, rfl, rfl, rfl, rfl⟩ d41_155 (c_h_mod_n2 v3 v6 q t0 y1 _ e19) ?_
                  obtain ⟨r158, e20, hf⟩ := Option.bind_eq_some_iff.mp hf
                  refine go_virt (pc := 158) (i := 0) (as := [.int r155]) (rest := []) (w' := (some q, [(8, r158.2), (8, y1)])) lk_1_40 pd_26 rfl oid_0 rfl rfl rfl rfl rfl rfl ⟨rfl, rfl, rfl, rfl, rfl⟩ d41_158 (c_k_release r155 t0 _ e20) ?_
                  refine go_pop (pc := 161) d41_161 (go_goto (pc := 162) (pc' := 224) d41_162 j_162_62 ?_)
                  cases hf
                  exact go_ret (pc := 224) rfl d41_224
              · replace hf := (if_neg h8).symm.trans hf
                refine go_icY (pc := 126) (pc' := 165) d41_126 (XT.ii_ne_t h8) j_126_39 ?_
                refine go_iloadN (pc := 165) d41_165 rfl (go_iconst (pc := 166) d41_166 ci_2 (go_ishr (pc := 167) d41_167 (go_iconst (pc := 168) d41_168 ci_3 ?_)))
                obtain ⟨r169, e9, hf⟩ := Option.bind_eq_some_iff.mp hf
                refine go_stat (pc := 169) (as := [.int (v2 >>> ((2 : Int32) &&& 31)), .int (3 : Int32)]) (rest := []) (w' := (some q, [(8, t0), (8, y1)])) lk_1_7 pd_1 rfl rfl ⟨Nat.le_of_ble_eq_true rfl, Nat.le_of_ble_eq_true rfl⟩ ⟨rfl, rfl, rfl⟩ ⟨rfl, rfl, rfl, rfl, rfl⟩ d41_169 (c_h_mod_n2 (v2 >>> ((2 : Int32) &&& 31)) (3 : Int32) q t0 y1 _ e9) ?_
                refine go_istore (pc := 172) (L' := [.val (.ref 1), .val (.int v1), .val (.int v2), .val (.int v3), .val (.int v4), .val (.int v5), .val (.int v6), .val (.int (v2 &&& (3 : Int32))), .val (.int r8), .val (.int r169)]) d41_172 rfl (go_iload (pc := 174) d41_174 rfl ?_)
                by_cases h10 : r169 = 0
                · replace hf := (if_pos h10).symm.trans hf
                  refine go_ifN (pc := 176) d41_176 (XT.i0_ne_f h10) ?_
                  refine go_aloadN (pc := 179) d41_179 rfl (go_iloadN (pc := 180) d41_180 rfl (go_iconst (pc := 181) d41_181 ci_4 ?_))
                  obtain ⟨r182, e16, hf⟩ := Option.bind_eq_some_iff.mp hf
                  refine go_stat (pc := 182) (as := [.int v3, .int (4 : Int32)]) (rest := [.ref 1]) (w' := (some q, [(8, t0), (8, y1)])) lk_1_7 pd_1 rfl rfl ⟨Nat.le_of_ble_eq_true rfl, Nat.le_of_ble_eq_true rfl⟩ ⟨rfl, rfl, rfl⟩ ⟨rfl, rfl, rfl, rfl, rfl⟩ d41_182 (c_h_mod_n2 v3 (4 : Int32) q t0 y1 _ e16) ?_
                  obtain ⟨r185, e17, hf⟩ := Option.bind_eq_some_iff.mp hf
                  refine go_virt (pc := 185) (i := 0) (as := [.int r182]) (rest := []) (w' := (some q, [(8, r185.2), (8, y1)])) lk_1_43 pd_32 rfl oid_0 rfl rfl rfl rfl rfl rfl ⟨rfl, rfl, rfl, rfl, rfl⟩ d41_185 (c_k_allocBlock r182 t0 _ e17) ?_
                  refine go_pop (pc := 188) d41_188 (go_goto (pc := 189) (pc' := 224) d41_189 j_189_35 ?_)
                  cases hf
                  exact go_ret (pc := 224) rfl d41_224
                · replace hf := (if_neg h10).symm.trans hf
                  refine go_ifY (pc := 176) (pc' := 192) d41_176 (XT.i0_ne_t h10) j_176_16 ?_
                  refine go_iload (pc := 192) d41_192 rfl (go_iconst (pc := 194) d41_194 ci_1 ?_)
                  by_cases h11 : r169 = (1 : Int32)
                  · replace hf := (if_pos h11).symm.trans hf
                    refine go_icN (pc := 195) d41_195 (XT.ii_ne_f h11) ?_
                    refine go_aloadN (pc := 198) d41_198 rfl (go_iload (pc := 199) d41_199 rfl (go_bipush (pc := 201) d41_201 cb_8 ?_))
                    obtain ⟨r203, e14, hf⟩ := Option.bind_eq_some_iff.mp hf
                    refine go_stat (pc := 203) (as := [.int v4, .int (8 : Int32)]) (rest := [.ref 1]) (w' := (some q, [(8, t0), (8, y1)])) lk_1_7 pd_1 rfl rfl ⟨Nat.le_of_ble_eq_true rfl, Nat.le_of_ble_eq_true rfl⟩ ⟨rfl, rfl, rfl⟩ ⟨rfl, rfl, rfl, rfl, rfl⟩ d41_203 (c_h_mod_n2 v4 (8 : Int32) q t0 y1 _ e14) ?_
                    obtain ⟨r206, e15, hf⟩ := Option.bind_eq_some_iff.mp hf
                    refine go_virt (pc := 206) (i := 0) (as := [.int r203]) (rest := []) (w' := (some q, [(8, r206.2), (8, y1)])) lk_1_47 pd_40 rfl oid_0 rfl rfl rfl rfl rfl rfl ⟨rfl, rfl, rfl, rfl, rfl⟩ d41_206 (c_k_compact r203 t0 _ e15) ?_
                    refine go_pop (pc := 209) d41_209 (go_goto (pc := 210) (pc' := 224) d41_210 j_210_14 ?_)
                    cases hf
                    exact go_ret (pc := 224) rfl d41_224
                  · replace hf := (if_neg h11).symm.trans hf
                    refine go_icY (pc := 195) (pc' := 213) d41_195 (XT.ii_ne_t h11) j_195_18 ?_
                    refine go_aloadN (pc := 213) d41_213 rfl (go_iloadN (pc := 214) d41_214 rfl (go_iload (pc := 215) d41_215 rfl ?_))
                    obtain ⟨r217, e12, hf⟩ := Option.bind_eq_some_iff.mp hf
                    refine go_stat (pc := 217) (as := [.int v3, .int v6]) (rest := [.ref 1]) (w' := (some q, [(8, t0), (8, y1)])) lk_1_7 pd_1 rfl rfl ⟨Nat.le_of_ble_eq_true rfl, Nat.le_of_ble_eq_true rfl⟩ ⟨rfl, rfl, rfl⟩ ⟨rfl, rfl, rfl, rfl, rfl⟩ d41_217 (c_h_mod_n2 v3 v6 q t0 y1 _ e12) ?_
                    obtain ⟨r220, e13, hf⟩ := Option.bind_eq_some_iff.mp hf
                    refine go_virt (pc := 220) (i := 0) (as := [.int r217]) (rest := []) (w' := (some q, [(8, r220.2), (8, y1)])) lk_1_40 pd_26 rfl oid_0 rfl rfl rfl rfl rfl rfl ⟨rfl, rfl, rfl, rfl, rfl⟩ d41_220 (c_k_release r217 t0 _ e13) ?_
                    refine go_pop (pc := 223) d41_223 ?_
                    cases hf
                    exact go_ret (pc := 224) rfl d41_224
theorem c_h_apply_0_n2 (v1 : Int32) (v2 : Int32) (v3 : Int32) (v4 : Int32) (v5 : Int32) (v6 : Int32) (t0 : S) (q : List Int32) (y1 : S) (o : S) (hf : h_apply v1 v2 v3 v4 v5 v6 t0 = some o) : Call PP m41 [.ref 1, .int v1, .int v2, .int v3, .int v4, .int v5, .int v6] (some q, [(8, t0), (8, y1)]) (none, (some q, [(8, o), (8, y1)])) := call_of_go pl_1 rfl (fun _ => rfl) (h_apply_ok_0_n2 v1 v2 v3 v4 v5 v6 t0   _ hf)
set_option maxRecDepth 65536 in
set_option maxHeartbeats 4000000 in
theorem h_apply_22_ok_1_n2  {y0 : S} {q : List Int32} : ∀ (v4 : Int32) (v7 : Int32) (v8 : Int32) (t0 : S) (x1 : Slot) (x2 : Slot) (x3 : Slot) (x5 : Slot) (x6 : Slot) (hx1 : k1 x1) (hx2 : k1 x2) (hx3 : k1 x3) (hx5 : k1 x5) (hx6 : k1 x6) (o : S), h_apply_22 v4 v7 v8 t0 = some o → Go PP m41 22 [.val (.ref 10), x1, x2, x3, .val (.int v4), x5, x6, .val (.int v7), .val (.int v8), .unset] [] (some q, [(8, y0), (8, t0)]) (none, (some q, [(8, y0), (8, o)])) := by
  intro v4 v7 v8 t0 x1 x2 x3 x5 x6 hx1 hx2 hx3 hx5 hx6 o hf
  unfold h_apply_22 at hf
  refine go_aloadN (pc := 22) d41_22 rfl (go_iload (pc := 23) d41_23 rfl (go_iload (pc := 25) d41_25 rfl (go_iload (pc := 27) d41_27 rfl ?_)))
  obtain ⟨r29, e1, hf⟩ := Option.bind_eq_some_iff.mp hf
  refine go_virt (pc := 29) (i := 1) (as := [.int v7, .int v8, .int v4]) (rest := []) (w' := (some q, [(8, y0), (8, r29.2)])) lk_1_13 pd_15 rfl oid_1 rfl rfl rfl rfl rfl rfl ⟨rfl, rfl, rfl, rfl, rfl⟩ d41_29 (c_k_mapNew v7 v8 v4 t0 _ e1) ?_
  refine go_pop (pc := 32) d41_32 (go_goto (pc := 33) (pc' := 224) d41_33 j_33_191 ?_)
  cases hf
  exact go_ret (pc := 224) rfl d41_224
set_option maxRecDepth 65536 in
set_option maxHeartbeats 4000000 in
theorem h_apply_ok_1_n2  {y0 : S} {q : List Int32} : ∀ (v1 : Int32) (v2 : Int32) (v3 : Int32) (v4 : Int32) (v5 : Int32) (v6 : Int32) (t0 : S)  (o : S), h_apply v1 v2 v3 v4 v5 v6 t0 = some o → Go PP m41 0 [.val (.ref 10), .val (.int v1), .val (.int v2), .val (.int v3), .val (.int v4), .val (.int v5), .val (.int v6), .unset, .unset, .unset] [] (some q, [(8, y0), (8, t0)]) (none, (some q, [(8, y0), (8, o)])) := by
  intro v1 v2 v3 v4 v5 v6 t0 o hf
  unfold h_apply at hf
  refine go_iloadN (pc := 0) d41_0 rfl (go_iconst (pc := 1) d41_1 ci_3 (go_iand (pc := 2) d41_2 (go_istore (pc := 3) (L' := [.val (.ref 10), .val (.int v1), .val (.int v2), .val (.int v3), .val (.int v4), .val (.int v5), .val (.int v6), .val (.int (v2 &&& (3 : Int32))), .unset, .unset]) d41_3 rfl (go_iloadN (pc := 5) d41_5 rfl (go_iload (pc := 6) d41_6 rfl ?_)))))
  obtain ⟨r8, e1, hf⟩ := Option.bind_eq_some_iff.mp hf
  refine go_stat (pc := 8) (as := [.int v3, .int v5]) (rest := []) (w' := (some q, [(8, y0), (8, t0)])) lk_1_7 pd_1 rfl rfl ⟨Nat.le_of_ble_eq_true rfl, Nat.le_of_ble_eq_true rfl⟩ ⟨rfl, rfl, rfl⟩ ⟨rfl, rfl, rfl, rfl, rfl⟩ d41_8 (c_h_mod_n2 v3 v5 q y0 t0 _ e1) ?_
  refine go_istore (pc := 11) (L' := [.val (.ref 10), .val (.int v1), .val (.int v2), .val (.int v3), .val (.int v4), .val (.int v5), .val (.int v6), .val (.int (v2 &&& (3 : Int32))), .val (.int r8), .unset]) d41_11 rfl (go_iloadN (pc := 13) d41_13 rfl ?_)
  by_cases h2 : v1 = 0
  · replace hf := (if_pos h2).symm.trans hf
    refine go_ifY (pc := 14) (pc' := 22) d41_14 (XT.i0_eq_t h2) j_14_8 ?_
    exact h_apply_22_ok_1_n2 v4 (v2 &&& (3 : Int32)) r8 t0 (.val (.int v1)) (.val (.int v2)) (.val (.int v3)) (.val (.int v5)) (.val (.int v6)) (Or.inr ⟨_, rfl, rfl⟩) (Or.inr ⟨_, rfl, rfl⟩) (Or.inr ⟨_, rfl, rfl⟩) (Or.inr ⟨_, rfl, rfl⟩) (Or.inr ⟨_, rfl, rfl⟩) _ hf
  · replace hf := (if_neg h2).symm.trans hf
    refine go_ifN (pc := 14) d41_14 (XT.i0_eq_f h2) ?_
    refine go_iloadN (pc := 17) d41_17 rfl (go_iconst (pc := 18) d41_18 ci_1 ?_)
    by_cases h3 : v1 = (1 : Int32)
    · replace hf := (if_pos h3).symm.trans hf
      refine go_icN (pc := 19) d41_19 (XT.ii_ne_f h3) ?_
      exact h_apply_22_ok_1_n2 v4 (v2 &&& (3 : Int32)) r8 t0 (.val (.int v1)) (.val (.int v2)) (.val (.int v3)) (.val (.int v5)) (.val (.int v6)) (Or.inr ⟨_, rfl, rfl⟩) (Or.inr ⟨_, rfl, rfl⟩) (Or.inr ⟨_, rfl, rfl⟩) (Or.inr ⟨_, rfl, rfl⟩) (Or.inr ⟨_, rfl, rfl⟩) _ hf
    · replace hf := (if_neg h3).symm.trans hf
      refine go_icY (pc := 19) (pc' := 36) d41_19 (XT.ii_ne_t h3) j_19_17 ?_
      refine go_iloadN (pc := 36) d41_36 rfl (go_iconst (pc := 37) d41_37 ci_2 ?_)
      by_cases h4 : v1 = (2 : Int32)
      · replace hf := (if_pos h4).symm.trans hf
        refine go_icN (pc := 38) d41_38 (XT.ii_ne_f h4) ?_
        refine go_aloadN (pc := 41) d41_41 rfl (go_iload (pc := 42) d41_42 rfl (go_iload (pc := 44) d41_44 rfl (go_iload (pc := 46) d41_46 rfl (go_iconst (pc := 48) d41_48 ci_3 (go_iand (pc := 49) d41_49 (go_iload (pc := 50) d41_50 rfl (go_iconst (pc := 52) d41_52 ci_2 ?_)))))))
        refine go_iushr (pc := 53) d41_53 (go_iload (pc := 54) d41_54 rfl ?_)
        obtain ⟨r56, e27, hf⟩ := Option.bind_eq_some_iff.mp hf
        refine go_stat (pc := 56) (as := [.int (XT.ushr v4 (2 : Int32)), .int v5]) (rest := [.int (v4 &&& (3 : Int32)), .int r8, .int (v2 &&& (3 : Int32)), .ref 10]) (w' := (some q, [(8, y0), (8, t0)])) lk_1_7 pd_1 rfl rfl ⟨Nat.le_of_ble_eq_true rfl, Nat.le_of_ble_eq_true rfl⟩ ⟨rfl, rfl, rfl⟩ ⟨rfl, rfl, rfl, rfl, rfl⟩ d41_56 (c_h_mod_n2 (XT.ushr v4 (2 : Int32)) v5 q y0 t0 _ e27) ?_
        obtain ⟨r59, e28, hf⟩ := Option.bind_eq_some_iff.mp hf
        refine go_virt (pc := 59) (i := 1) (as := [.int (v2 &&& (3 : Int32)), .int r8, .int (v4 &&& (3 : Int32)), .int r56]) (rest := []) (w' := (some q, [(8, y0), (8, r59.2)])) lk_1_19 pd_16 rfl oid_1 rfl rfl rfl rfl rfl rfl ⟨rfl, rfl, rfl, rfl, rfl⟩ d41_59 (c_k_share (v2 &&& (3 : Int32)) r8 (v4 &&& (3 : Int32)) r56 t0 _ e28) ?_
        refine go_pop (pc := 62) d41_62 (go_goto (pc := 63) (pc' := 224) d41_63 j_63_161 ?_)
        cases hf
        exact go_ret (pc := 224) rfl d41_224
      · replace hf := (if_neg h4).symm.trans hf
        refine go_icY (pc := 38) (pc' := 66) d41_38 (XT.ii_ne_t h4) j_38_28 ?_
        refine go_iloadN (pc := 66) d41_66 rfl (go_iconst (pc := 67) d41_67 ci_3 ?_)
        by_cases h5 : v1 = (3 : Int32)
        · replace hf := (if_pos h5).symm.trans hf
          refine go_icN (pc := 68) d41_68 (XT.ii_ne_f h5) ?_
          refine go_aloadN (pc := 71) d41_71 rfl (go_iload (pc := 72) d41_72 rfl (go_iload (pc := 74) d41_74 rfl ?_))
          obtain ⟨r76, e26, hf⟩ := Option.bind_eq_some_iff.mp hf
          refine go_virt (pc := 76) (i := 1) (as := [.int (v2 &&& (3 : Int32)), .int r8]) (rest := []) (w' := (some q, [(8, y0), (8, r76.2)])) lk_1_23 pd_20 rfl oid_1 rfl rfl rfl rfl rfl rfl ⟨rfl, rfl, rfl, rfl, rfl⟩ d41_76 (c_k_unmap (v2 &&& (3 : Int32)) r8 t0 _ e26) ?_
          refine go_pop (pc := 79) d41_79 (go_goto (pc := 80) (pc' := 224) d41_80 j_80_144 ?_)
          cases hf
          exact go_ret (pc := 224) rfl d41_224
        · replace hf := (if_neg h5).symm.trans hf
          refine go_icY (pc := 68) (pc' := 83) d41_68 (XT.ii_ne_t h5) j_68_15 ?_
          refine go_iloadN (pc := 83) d41_83 rfl (go_iconst (pc := 84) d41_84 ci_4 ?_)
          by_cases h6 : v1 = (4 : Int32)
          · replace hf := (if_pos h6).symm.trans hf
            refine go_icN (pc := 85) d41_85 (XT.ii_ne_f h6) ?_
            refine go_aloadN (pc := 88) d41_88 rfl (go_iload (pc := 89) d41_89 rfl (go_iload (pc := 91) d41_91 rfl (go_iload (pc := 93) d41_93 rfl ?_)))
            obtain ⟨r95, e25, hf⟩ := Option.bind_eq_some_iff.mp hf
            refine go_virt (pc := 95) (i := 1) (as := [.int (v2 &&& (3 : Int32)), .int r8, .int v4]) (rest := []) (w' := (some q, [(8, y0), (8, r95.2)])) lk_1_26 pd_22 rfl oid_1 rfl rfl rfl rfl rfl rfl ⟨rfl, rfl, rfl, rfl, rfl⟩ d41_95 (c_k_write (v2 &&& (3 : Int32)) r8 v4 t0 _ e25) ?_
            refine go_pop (pc := 98) d41_98 (go_goto (pc := 99) (pc' := 224) d41_99 j_99_125 ?_)
            cases hf
            exact go_ret (pc := 224) rfl d41_224
          · replace hf := (if_neg h6).symm.trans hf
            refine go_icY (pc := 85) (pc' := 102) d41_85 (XT.ii_ne_t h6) j_85_17 ?_
            refine go_iloadN (pc := 102) d41_102 rfl (go_iconst (pc := 103) d41_103 ci_5 ?_)
            by_cases h7 : v1 = (5 : Int32)
            · replace hf := (if_pos h7).symm.trans hf
              refine go_icN (pc := 104) d41_104 (XT.ii_ne_f h7) ?_
              refine go_aloadN (pc := 107) d41_107 rfl (go_aloadN (pc := 108) d41_108 rfl (go_iload (pc := 109) d41_109 rfl (go_iload (pc := 111) d41_111 rfl ?_)))
              obtain ⟨r113, e23, hf⟩ := Option.bind_eq_some_iff.mp hf
              refine go_virt (pc := 113) (i := 1) (as := [.int (v2 &&& (3 : Int32)), .int r8]) (rest := [.ref 10]) (w' := (some q, [(8, y0), (8, t0)])) lk_1_30 pd_23 rfl oid_1 rfl rfl rfl rfl rfl rfl ⟨rfl, rfl, rfl, rfl, rfl⟩ d41_113 (c_k_frameOf (v2 &&& (3 : Int32)) r8 t0 _ e23) ?_
              obtain ⟨r116, e24, hf⟩ := Option.bind_eq_some_iff.mp hf
              refine go_virt (pc := 116) (i := 1) (as := [.int r113]) (rest := []) (w' := (some q, [(8, y0), (8, r116.2)])) lk_1_33 pd_24 rfl oid_1 rfl rfl rfl rfl rfl rfl ⟨rfl, rfl, rfl, rfl, rfl⟩ d41_116 (c_k_pin r113 t0 _ e24) ?_
              refine go_pop (pc := 119) d41_119 (go_goto (pc := 120) (pc' := 224) d41_120 j_120_104 ?_)
              cases hf
              exact go_ret (pc := 224) rfl d41_224
            · replace hf := (if_neg h7).symm.trans hf
              refine go_icY (pc := 104) (pc' := 123) d41_104 (XT.ii_ne_t h7) j_104_19 ?_
              refine go_iloadN (pc := 123) d41_123 rfl (go_bipush (pc := 124) d41_124 cb_6 ?_)
              by_cases h8 : v1 = (6 : Int32)
              · replace hf := (if_pos h8).symm.trans hf
                refine go_icN (pc := 126) d41_126 (XT.ii_ne_f h8) ?_
                refine go_iloadN (pc := 129) d41_129 rfl (go_iconst (pc := 130) d41_130 ci_4 (go_iand (pc := 131) d41_131 ?_))
                by_cases h18 : (v2 &&& (4 : Int32)) = 0
                · replace hf := (if_pos h18).symm.trans hf
                  refine go_ifN (pc := 132) d41_132 (XT.i0_ne_f h18) ?_
                  refine go_aloadN (pc := 135) d41_135 rfl (go_aloadN (pc := 136) d41_136 rfl (go_iload (pc := 137) d41_137 rfl (go_iload (pc := 139) d41_139 rfl ?_)))
                  obtain ⟨r141, e21, hf⟩ := Option.bind_eq_some_iff.mp hf
                  refine go_virt (pc := 141) (i := 1) (as := [.int (v2 &&& (3 : Int32)), .int r8]) (rest := [.ref 10]) (w' := (some q, [(8, y0), (8, t0)])) lk_1_30 pd_23 rfl oid_1 rfl rfl rfl rfl rfl rfl ⟨rfl, rfl, rfl, rfl, rfl⟩ d41_141 (c_k_frameOf (v2 &&& (3 : Int32)) r8 t0 _ e21) ?_
                  obtain ⟨r144, e22, hf⟩ := Option.bind_eq_some_iff.mp hf
                  refine go_virt (pc := 144) (i := 1) (as := [.int r141]) (rest := []) (w' := (some q, [(8, y0), (8, r144.2)])) lk_1_37 pd_25 rfl oid_1 rfl rfl rfl rfl rfl rfl ⟨rfl, rfl, rfl, rfl, rfl⟩ d41_144 (c_k_unpin r141 t0 _ e22) ?_
                  refine go_pop (pc := 147) d41_147 (go_goto (pc := 148) (pc' := 224) d41_148 j_148_76 ?_)
                  cases hf
                  exact go_ret (pc := 224) rfl d41_224
                · replace hf := (if_neg h18).symm.trans hf
                  refine go_ifY (pc := 132) (pc' := 151) d41_132 (XT.i0_ne_t h18) j_132_19 ?_
                  refine go_aloadN (pc := 151) d41_151 rfl (go_iloadN (pc := 152) d41_152 rfl (go_iload (pc := 153) d41_153 rfl ?_))
                  obtain ⟨r155, e19, hf⟩ := Option.bind_eq_some_iff.mp hf
                  refine go_stat (pc := 155) (as := [.int v3, .int v6]) (rest := [.ref 10]) (w' := (some q, [(8, y0), (8, t0)])) lk_1_7 pd_1 rfl rfl ⟨Nat.le_of_ble_eq_true rfl, Nat.le_of_ble_eq_true rfl⟩ ⟨rfl, rfl, rfl⟩ ⟨rfl, rfl, rfl, rfl, rfl⟩ d41_155 (c_h_mod_n2 v3 v6 q y0 t0 _ e19) ?_
                  obtain ⟨r158, e20, hf⟩ := Option.bind_eq_some_iff.mp hf
                  refine go_virt (pc := 158) (i := 1) (as := [.int r155]) (rest := []) (w' := (some q, [(8, y0), (8, r158.2)])) lk_1_40 pd_26 rfl oid_1 rfl rfl rfl rfl rfl rfl ⟨rfl, rfl, rfl, rfl, rfl⟩ d41_158 (c_k_release r155 t0 _ e20) ?_
                  refine go_pop (pc := 161) d41_161 (go_goto (pc := 162) (pc' := 224) d41_162 j_162_62 ?_)
                  cases hf
                  exact go_ret (pc := 224) rfl d41_224
              · replace hf := (if_neg h8).symm.trans hf
                refine go_icY (pc := 126) (pc' := 165) d41_126 (XT.ii_ne_t h8) j_126_39 ?_
                refine go_iloadN (pc := 165) d41_165 rfl (go_iconst (pc := 166) d41_166 ci_2 (go_ishr (pc := 167) d41_167 (go_iconst (pc := 168) d41_168 ci_3 ?_)))
                obtain ⟨r169, e9, hf⟩ := Option.bind_eq_some_iff.mp hf
                refine go_stat (pc := 169) (as := [.int (v2 >>> ((2 : Int32) &&& 31)), .int (3 : Int32)]) (rest := []) (w' := (some q, [(8, y0), (8, t0)])) lk_1_7 pd_1 rfl rfl ⟨Nat.le_of_ble_eq_true rfl, Nat.le_of_ble_eq_true rfl⟩ ⟨rfl, rfl, rfl⟩ ⟨rfl, rfl, rfl, rfl, rfl⟩ d41_169 (c_h_mod_n2 (v2 >>> ((2 : Int32) &&& 31)) (3 : Int32) q y0 t0 _ e9) ?_
                refine go_istore (pc := 172) (L' := [.val (.ref 10), .val (.int v1), .val (.int v2), .val (.int v3), .val (.int v4), .val (.int v5), .val (.int v6), .val (.int (v2 &&& (3 : Int32))), .val (.int r8), .val (.int r169)]) d41_172 rfl (go_iload (pc := 174) d41_174 rfl ?_)
                by_cases h10 : r169 = 0
                · replace hf := (if_pos h10).symm.trans hf
                  refine go_ifN (pc := 176) d41_176 (XT.i0_ne_f h10) ?_
                  refine go_aloadN (pc := 179) d41_179 rfl (go_iloadN (pc := 180) d41_180 rfl (go_iconst (pc := 181) d41_181 ci_4 ?_))
                  obtain ⟨r182, e16, hf⟩ := Option.bind_eq_some_iff.mp hf
                  refine go_stat (pc := 182) (as := [.int v3, .int (4 : Int32)]) (rest := [.ref 10]) (w' := (some q, [(8, y0), (8, t0)])) lk_1_7 pd_1 rfl rfl ⟨Nat.le_of_ble_eq_true rfl, Nat.le_of_ble_eq_true rfl⟩ ⟨rfl, rfl, rfl⟩ ⟨rfl, rfl, rfl, rfl, rfl⟩ d41_182 (c_h_mod_n2 v3 (4 : Int32) q y0 t0 _ e16) ?_
                  obtain ⟨r185, e17, hf⟩ := Option.bind_eq_some_iff.mp hf
                  refine go_virt (pc := 185) (i := 1) (as := [.int r182]) (rest := []) (w' := (some q, [(8, y0), (8, r185.2)])) lk_1_43 pd_32 rfl oid_1 rfl rfl rfl rfl rfl rfl ⟨rfl, rfl, rfl, rfl, rfl⟩ d41_185 (c_k_allocBlock r182 t0 _ e17) ?_
                  refine go_pop (pc := 188) d41_188 (go_goto (pc := 189) (pc' := 224) d41_189 j_189_35 ?_)
                  cases hf
                  exact go_ret (pc := 224) rfl d41_224
                · replace hf := (if_neg h10).symm.trans hf
                  refine go_ifY (pc := 176) (pc' := 192) d41_176 (XT.i0_ne_t h10) j_176_16 ?_
                  refine go_iload (pc := 192) d41_192 rfl (go_iconst (pc := 194) d41_194 ci_1 ?_)
                  by_cases h11 : r169 = (1 : Int32)
                  · replace hf := (if_pos h11).symm.trans hf
                    refine go_icN (pc := 195) d41_195 (XT.ii_ne_f h11) ?_
                    refine go_aloadN (pc := 198) d41_198 rfl (go_iload (pc := 199) d41_199 rfl (go_bipush (pc := 201) d41_201 cb_8 ?_))
                    obtain ⟨r203, e14, hf⟩ := Option.bind_eq_some_iff.mp hf
                    refine go_stat (pc := 203) (as := [.int v4, .int (8 : Int32)]) (rest := [.ref 10]) (w' := (some q, [(8, y0), (8, t0)])) lk_1_7 pd_1 rfl rfl ⟨Nat.le_of_ble_eq_true rfl, Nat.le_of_ble_eq_true rfl⟩ ⟨rfl, rfl, rfl⟩ ⟨rfl, rfl, rfl, rfl, rfl⟩ d41_203 (c_h_mod_n2 v4 (8 : Int32) q y0 t0 _ e14) ?_
                    obtain ⟨r206, e15, hf⟩ := Option.bind_eq_some_iff.mp hf
                    refine go_virt (pc := 206) (i := 1) (as := [.int r203]) (rest := []) (w' := (some q, [(8, y0), (8, r206.2)])) lk_1_47 pd_40 rfl oid_1 rfl rfl rfl rfl rfl rfl ⟨rfl, rfl, rfl, rfl, rfl⟩ d41_206 (c_k_compact r203 t0 _ e15) ?_
                    refine go_pop (pc := 209) d41_209 (go_goto (pc := 210) (pc' := 224) d41_210 j_210_14 ?_)
                    cases hf
                    exact go_ret (pc := 224) rfl d41_224
                  · replace hf := (if_neg h11).symm.trans hf
                    refine go_icY (pc := 195) (pc' := 213) d41_195 (XT.ii_ne_t h11) j_195_18 ?_
                    refine go_aloadN (pc := 213) d41_213 rfl (go_iloadN (pc := 214) d41_214 rfl (go_iload (pc := 215) d41_215 rfl ?_))
                    obtain ⟨r217, e12, hf⟩ := Option.bind_eq_some_iff.mp hf
                    refine go_stat (pc := 217) (as := [.int v3, .int v6]) (rest := [.ref 10]) (w' := (some q, [(8, y0), (8, t0)])) lk_1_7 pd_1 rfl rfl ⟨Nat.le_of_ble_eq_true rfl, Nat.le_of_ble_eq_true rfl⟩ ⟨rfl, rfl, rfl⟩ ⟨rfl, rfl, rfl, rfl, rfl⟩ d41_217 (c_h_mod_n2 v3 v6 q y0 t0 _ e12) ?_
                    obtain ⟨r220, e13, hf⟩ := Option.bind_eq_some_iff.mp hf
                    refine go_virt (pc := 220) (i := 1) (as := [.int r217]) (rest := []) (w' := (some q, [(8, y0), (8, r220.2)])) lk_1_40 pd_26 rfl oid_1 rfl rfl rfl rfl rfl rfl ⟨rfl, rfl, rfl, rfl, rfl⟩ d41_220 (c_k_release r217 t0 _ e13) ?_
                    refine go_pop (pc := 223) d41_223 ?_
                    cases hf
                    exact go_ret (pc := 224) rfl d41_224
theorem c_h_apply_1_n2 (v1 : Int32) (v2 : Int32) (v3 : Int32) (v4 : Int32) (v5 : Int32) (v6 : Int32) (t0 : S) (q : List Int32) (y0 : S) (o : S) (hf : h_apply v1 v2 v3 v4 v5 v6 t0 = some o) : Call PP m41 [.ref 10, .int v1, .int v2, .int v3, .int v4, .int v5, .int v6] (some q, [(8, y0), (8, t0)]) (none, (some q, [(8, y0), (8, o)])) := call_of_go pl_1 rfl (fun _ => rfl) (h_apply_ok_1_n2 v1 v2 v3 v4 v5 v6 t0   _ hf)
def T_law_509 (k509 : Int32 → Int32 → Int32 → List Int32 → S → S → Option (Int32 × S × S)) : Prop := ∀ (v2 : Int32) (v8 : Int32) (v10 : Int32) (q : List Int32) (t0 : S) (t1 : S) (x1 : Slot) (x3 : Slot) (x6 : Slot) (x7 : Slot) (x9 : Slot) (x11 : Slot) (x12 : Slot) (x13 : Slot) (x14 : Slot) (x15 : Slot) (x16 : Slot) (x17 : Slot) (hx1 : k1 x1) (hx3 : k1 x3) (hx6 : k1 x6) (hx7 : k1 x7) (hx9 : k1 x9) (hx11 : k1 x11) (hx12 : k1 x12) (hx13 : k1 x13) (hx14 : k1 x14) (hx15 : k1 x15) (hx16 : k1 x16) (hx17 : k1 x17) (o : Int32 × S × S), k509 v2 v8 v10 q t0 t1 = some o → Go PP m48 509 [.val (.ref 0), x1, .val (.int v2), x3, .val (.ref 1), .val (.ref 10), x6, x7, .val (.int v8), x9, .val (.int v10), x11, x12, x13, x14, x15, x16, x17] [] (some q, [(8, t0), (8, t1)]) (some (.int o.1), (some q, [(8, o.2.1), (8, o.2.2)]))
def T_law_552 (k552 : Int32 → Int32 → Int32 → Int32 → Int32 → Int32 → List Int32 → S → S → Option (Int32 × S × S)) : Prop := ∀ (v2 : Int32) (v8 : Int32) (v10 : Int32) (v11 : Int32) (v12 : Int32) (v13 : Int32) (q : List Int32) (t0 : S) (t1 : S) (x1 : Slot) (x3 : Slot) (x6 : Slot) (x7 : Slot) (x9 : Slot) (x14 : Slot) (x15 : Slot) (x16 : Slot) (x17 : Slot) (hx1 : k1 x1) (hx3 : k1 x3) (hx6 : k1 x6) (hx7 : k1 x7) (hx9 : k1 x9) (hx14 : k1 x14) (hx15 : k1 x15) (hx16 : k1 x16) (hx17 : k1 x17) (o : Int32 × S × S), k552 v2 v8 v10 v11 v12 v13 q t0 t1 = some o → Go PP m48 552 [.val (.ref 0), x1, .val (.int v2), x3, .val (.ref 1), .val (.ref 10), x6, x7, .val (.int v8), x9, .val (.int v10), .val (.int v11), .val (.int v12), .val (.int v13), x14, x15, x16, x17] [] (some q, [(8, t0), (8, t1)]) (some (.int o.1), (some q, [(8, o.2.1), (8, o.2.2)]))
set_option maxRecDepth 65536 in
set_option maxHeartbeats 4000000 in
theorem law_627_ok {k509 : Int32 → Int32 → Int32 → List Int32 → S → S → Option (Int32 × S × S)} {k552 : Int32 → Int32 → Int32 → Int32 → Int32 → Int32 → List Int32 → S → S → Option (Int32 × S × S)} (hk509 : T_law_509 k509) (hk552 : T_law_552 k552) : ∀ (v2 : Int32) (v8 : Int32) (v10 : Int32) (v11 : Int32) (v12 : Int32) (v13 : Int32) (v16 : Int32) (p0 : Int32) (q : List Int32) (t0 : S) (t1 : S) (x1 : Slot) (x3 : Slot) (x6 : Slot) (x7 : Slot) (x9 : Slot) (x14 : Slot) (x15 : Slot) (x17 : Slot) (hx1 : k1 x1) (hx3 : k1 x3) (hx6 : k1 x6) (hx7 : k1 x7) (hx9 : k1 x9) (hx14 : k1 x14) (hx15 : k1 x15) (hx17 : k1 x17) (o : Int32 × S × S), law_627 k509 k552 v2 v8 v10 v11 v12 v13 v16 p0 q t0 t1 = some o → Go PP m48 627 [.val (.ref 0), x1, .val (.int v2), x3, .val (.ref 1), .val (.ref 10), x6, x7, .val (.int v8), x9, .val (.int v10), .val (.int v11), .val (.int v12), .val (.int v13), x14, x15, .val (.int v16), x17] [.int p0] (some q, [(8, t0), (8, t1)]) (some (.int o.1), (some q, [(8, o.2.1), (8, o.2.2)])) := by
  intro v2 v8 v10 v11 v12 v13 v16 p0 q t0 t1 x1 x3 x6 x7 x9 x14 x15 x17 hx1 hx3 hx6 hx7 hx9 hx14 hx15 hx17 o hf
  unfold law_627 at hf
  refine go_istore (pc := 627) (L' := [.val (.ref 0), x1, .val (.int v2), x3, .val (.ref 1), .val (.ref 10), x6, x7, .val (.int v8), x9, .val (.int v10), .val (.int v11), .val (.int v12), .val (.int v13), x14, x15, .val (.int v16), .val (.int p0)]) d48_627 (stx rfl hx17 rfl) (go_iload (pc := 629) d48_629 rfl (go_iload (pc := 631) d48_631 rfl ?_))
  by_cases h1 : v16 = p0
  · replace hf := (if_pos h1).symm.trans hf
    refine go_icY (pc := 633) (pc' := 638) d48_633 (XT.ii_eq_t h1) j_633_5 ?_
    refine go_iinc (pc := 638) (L' := [.val (.ref 0), x1, .val (.int v2), x3, .val (.ref 1), .val (.ref 10), x6, x7, .val (.int v8), x9, .val (.int v10), .val (.int v11), .val (.int v12), .val (.int (v13 + (1 : Int32))), x14, x15, .val (.int v16), .val (.int p0)]) d48_638 rfl ci_1 rfl (go_goto (pc := 641) (pc' := 552) d48_641 j_641_m89 ?_)
    exact hk552 v2 v8 v10 v11 v12 (v13 + (1 : Int32)) q t0 t1 x1 x3 x6 x7 x9 x14 x15 (.val (.int v16)) (.val (.int p0)) hx1 hx3 hx6 hx7 hx9 hx14 hx15 (Or.inr ⟨_, rfl, rfl⟩) (Or.inr ⟨_, rfl, rfl⟩) _ hf
  · replace hf := (if_neg h1).symm.trans hf
    refine go_icN (pc := 633) d48_633 (XT.ii_eq_f h1) ?_
    refine go_iconst (pc := 636) d48_636 ci_0 ?_
    cases hf
    exact go_zret (pc := 637) rfl d48_637 (show (0 : Int32) = nar .boolean (0 : Int32) by decide)
set_option maxRecDepth 65536 in
set_option maxHeartbeats 4000000 in
theorem law_607_ok {k509 : Int32 → Int32 → Int32 → List Int32 → S → S → Option (Int32 × S × S)} {k552 : Int32 → Int32 → Int32 → Int32 → Int32 → Int32 → List Int32 → S → S → Option (Int32 × S × S)} (hk509 : T_law_509 k509) (hk552 : T_law_552 k552) : ∀ (v2 : Int32) (v8 : Int32) (v10 : Int32) (v11 : Int32) (v12 : Int32) (v13 : Int32) (v15 : Int32) (p0 : Int32) (q : List Int32) (t0 : S) (t1 : S) (x1 : Slot) (x3 : Slot) (x6 : Slot) (x7 : Slot) (x9 : Slot) (x14 : Slot) (x16 : Slot) (x17 : Slot) (hx1 : k1 x1) (hx3 : k1 x3) (hx6 : k1 x6) (hx7 : k1 x7) (hx9 : k1 x9) (hx14 : k1 x14) (hx16 : k1 x16) (hx17 : k1 x17) (o : Int32 × S × S), law_607 k509 k552 v2 v8 v10 v11 v12 v13 v15 p0 q t0 t1 = some o → Go PP m48 607 [.val (.ref 0), x1, .val (.int v2), x3, .val (.ref 1), .val (.ref 10), x6, x7, .val (.int v8), x9, .val (.int v10), .val (.int v11), .val (.int v12), .val (.int v13), x14, .val (.int v15), x16, x17] [.int p0] (some q, [(8, t0), (8, t1)]) (some (.int o.1), (some q, [(8, o.2.1), (8, o.2.2)])) := by
  intro v2 v8 v10 v11 v12 v13 v15 p0 q t0 t1 x1 x3 x6 x7 x9 x14 x16 x17 hx1 hx3 hx6 hx7 hx9 hx14 hx16 hx17 o hf
  unfold law_607 at hf
  refine go_istore (pc := 607) (L' := [.val (.ref 0), x1, .val (.int v2), x3, .val (.ref 1), .val (.ref 10), x6, x7, .val (.int v8), x9, .val (.int v10), .val (.int v11), .val (.int v12), .val (.int v13), x14, .val (.int v15), .val (.int p0), x17]) d48_607 (stx rfl hx16 rfl) (go_iload (pc := 609) d48_609 rfl (go_iconst (pc := 611) d48_611 ci_m1 ?_))
  by_cases h1 : v12 = (-1 : Int32)
  · refine go_icY (pc := 612) (pc' := 626) d48_612 (XT.ii_eq_t h1) j_612_14 ?_
    refine go_iconst (pc := 626) d48_626 ci_0 ?_
    exact law_627_ok hk509 hk552 v2 v8 v10 v11 v12 v13 p0 (0 : Int32) q t0 t1 x1 x3 x6 x7 x9 x14 (.val (.int v15)) x17 hx1 hx3 hx6 hx7 hx9 hx14 (Or.inr ⟨_, rfl, rfl⟩) hx17 _ (by first | simpa only [if_pos h1] using hf | contradiction)
  · refine go_icN (pc := 612) d48_612 (XT.ii_eq_f h1) ?_
    refine go_iload (pc := 615) d48_615 rfl (go_iload (pc := 617) d48_617 rfl ?_)
    by_cases h2 : v12 = v15
    · refine go_icN (pc := 619) d48_619 (XT.ii_ne_f h2) ?_
      refine go_iconst (pc := 622) d48_622 ci_1 (go_goto (pc := 623) (pc' := 627) d48_623 j_623_4 ?_)
      exact law_627_ok hk509 hk552 v2 v8 v10 v11 v12 v13 p0 (1 : Int32) q t0 t1 x1 x3 x6 x7 x9 x14 (.val (.int v15)) x17 hx1 hx3 hx6 hx7 hx9 hx14 (Or.inr ⟨_, rfl, rfl⟩) hx17 _ (by first | simpa only [if_neg h1, if_pos h2] using hf | contradiction)
    · refine go_icY (pc := 619) (pc' := 626) d48_619 (XT.ii_ne_t h2) j_619_7 ?_
      refine go_iconst (pc := 626) d48_626 ci_0 ?_
      exact law_627_ok hk509 hk552 v2 v8 v10 v11 v12 v13 p0 (0 : Int32) q t0 t1 x1 x3 x6 x7 x9 x14 (.val (.int v15)) x17 hx1 hx3 hx6 hx7 hx9 hx14 (Or.inr ⟨_, rfl, rfl⟩) hx17 _ (by first | simpa only [if_neg h1, if_neg h2] using hf | contradiction)
set_option maxRecDepth 65536 in
set_option maxHeartbeats 4000000 in
theorem law_552_ok {k509 : Int32 → Int32 → Int32 → List Int32 → S → S → Option (Int32 × S × S)} (hk509 : T_law_509 k509) : ∀ (n : Nat) (v2 : Int32) (v8 : Int32) (v10 : Int32) (v11 : Int32) (v12 : Int32) (v13 : Int32) (q : List Int32) (t0 : S) (t1 : S) (x1 : Slot) (x3 : Slot) (x6 : Slot) (x7 : Slot) (x9 : Slot) (x14 : Slot) (x15 : Slot) (x16 : Slot) (x17 : Slot) (hx1 : k1 x1) (hx3 : k1 x3) (hx6 : k1 x6) (hx7 : k1 x7) (hx9 : k1 x9) (hx14 : k1 x14) (hx15 : k1 x15) (hx16 : k1 x16) (hx17 : k1 x17) (o : Int32 × S × S), law_552 k509 n v2 v8 v10 v11 v12 v13 q t0 t1 = some o → Go PP m48 552 [.val (.ref 0), x1, .val (.int v2), x3, .val (.ref 1), .val (.ref 10), x6, x7, .val (.int v8), x9, .val (.int v10), .val (.int v11), .val (.int v12), .val (.int v13), x14, x15, x16, x17] [] (some q, [(8, t0), (8, t1)]) (some (.int o.1), (some q, [(8, o.2.1), (8, o.2.2)])) := by
  intro n
  induction n with
  | zero => intro v2 v8 v10 v11 v12 v13 q t0 t1 x1 x3 x6 x7 x9 x14 x15 x16 x17 hx1 hx3 hx6 hx7 hx9 hx14 hx15 hx16 hx17 o hf; exact nomatch hf
  | succ n ih =>
    intro v2 v8 v10 v11 v12 v13 q t0 t1 x1 x3 x6 x7 x9 x14 x15 x16 x17 hx1 hx3 hx6 hx7 hx9 hx14 hx15 hx16 hx17 o hf
    unfold law_552 at hf
    refine go_iload (pc := 552) d48_552 rfl (go_iload (pc := 554) d48_554 rfl ?_)
    by_cases h1 : v13 < v8
    · replace hf := (if_pos h1).symm.trans hf
      refine go_icN (pc := 556) d48_556 (XT.ii_ge_f h1) ?_
      refine go_aload (pc := 559) d48_559 rfl (go_iload (pc := 561) d48_561 rfl (go_iloadN (pc := 563) d48_563 rfl ?_))
      by_cases e2 : v2 = 0
      · exact nomatch ((if_pos e2).symm.trans hf)
      replace hf := (if_neg e2).symm.trans hf
      refine go_idiv (pc := 564) d48_564 e2 ?_
      refine go_iload (pc := 565) d48_565 rfl (go_iloadN (pc := 567) d48_567 rfl ?_)
      by_cases e3 : v2 = 0
      · exact nomatch ((if_pos e3).symm.trans hf)
      replace hf := (if_neg e3).symm.trans hf
      refine go_irem (pc := 568) d48_568 e3 ?_
      obtain ⟨r569, e4, hf⟩ := Option.bind_eq_some_iff.mp hf
      refine go_virt (pc := 569) (i := 0) (as := [.int (v13 / v2), .int (v13 % v2)]) (rest := []) (w' := (some q, [(8, t0), (8, t1)])) lk_1_30 pd_23 rfl oid_0 rfl rfl rfl rfl rfl rfl ⟨rfl, rfl, rfl, rfl, rfl⟩ d48_569 (c_k_frameOf (v13 / v2) (v13 % v2) t0 _ e4) ?_
      refine go_istore (pc := 572) (L' := [.val (.ref 0), x1, .val (.int v2), x3, .val (.ref 1), .val (.ref 10), x6, x7, .val (.int v8), x9, .val (.int v10), .val (.int v11), .val (.int v12), .val (.int v13), .val (.int r569), x15, x16, x17]) d48_572 (stx rfl hx14 rfl) (go_aload (pc := 574) d48_574 rfl (go_iload (pc := 576) d48_576 rfl (go_iloadN (pc := 578) d48_578 rfl ?_)))
      by_cases e5 : v2 = 0
      · exact nomatch ((if_pos e5).symm.trans hf)
      replace hf := (if_neg e5).symm.trans hf
      refine go_idiv (pc := 579) d48_579 e5 ?_
      refine go_iload (pc := 580) d48_580 rfl (go_iloadN (pc := 582) d48_582 rfl ?_)
      by_cases e6 : v2 = 0
      · exact nomatch ((if_pos e6).symm.trans hf)
      replace hf := (if_neg e6).symm.trans hf
      refine go_irem (pc := 583) d48_583 e6 ?_
      obtain ⟨r584, e7, hf⟩ := Option.bind_eq_some_iff.mp hf
      refine go_virt (pc := 584) (i := 1) (as := [.int (v13 / v2), .int (v13 % v2)]) (rest := []) (w' := (some q, [(8, t0), (8, t1)])) lk_1_30 pd_23 rfl oid_1 rfl rfl rfl rfl rfl rfl ⟨rfl, rfl, rfl, rfl, rfl⟩ d48_584 (c_k_frameOf (v13 / v2) (v13 % v2) t1 _ e7) ?_
      refine go_istore (pc := 587) (L' := [.val (.ref 0), x1, .val (.int v2), x3, .val (.ref 1), .val (.ref 10), x6, x7, .val (.int v8), x9, .val (.int v10), .val (.int v11), .val (.int v12), .val (.int v13), .val (.int r569), .val (.int r584), x16, x17]) d48_587 (stx rfl hx15 rfl) (go_iload (pc := 589) d48_589 rfl (go_iconst (pc := 591) d48_591 ci_m1 ?_))
      by_cases h8 : v11 = (-1 : Int32)
      · refine go_icY (pc := 592) (pc' := 606) d48_592 (XT.ii_eq_t h8) j_592_14 ?_
        refine go_iconst (pc := 606) d48_606 ci_0 ?_
        exact law_607_ok hk509 ih v2 v8 v10 v11 v12 v13 r584 (0 : Int32) q t0 t1 x1 x3 x6 x7 x9 (.val (.int r569)) x16 x17 hx1 hx3 hx6 hx7 hx9 (Or.inr ⟨_, rfl, rfl⟩) hx16 hx17 _ (by first | simpa only [if_pos h8] using hf | contradiction)
      · refine go_icN (pc := 592) d48_592 (XT.ii_eq_f h8) ?_
        refine go_iload (pc := 595) d48_595 rfl (go_iload (pc := 597) d48_597 rfl ?_)
        by_cases h9 : v11 = r569
        · refine go_icN (pc := 599) d48_599 (XT.ii_ne_f h9) ?_
          refine go_iconst (pc := 602) d48_602 ci_1 (go_goto (pc := 603) (pc' := 607) d48_603 j_603_4 ?_)
          exact law_607_ok hk509 ih v2 v8 v10 v11 v12 v13 r584 (1 : Int32) q t0 t1 x1 x3 x6 x7 x9 (.val (.int r569)) x16 x17 hx1 hx3 hx6 hx7 hx9 (Or.inr ⟨_, rfl, rfl⟩) hx16 hx17 _ (by first | simpa only [if_neg h8, if_pos h9] using hf | contradiction)
        · refine go_icY (pc := 599) (pc' := 606) d48_599 (XT.ii_ne_t h9) j_599_7 ?_
          refine go_iconst (pc := 606) d48_606 ci_0 ?_
          exact law_607_ok hk509 ih v2 v8 v10 v11 v12 v13 r584 (0 : Int32) q t0 t1 x1 x3 x6 x7 x9 (.val (.int r569)) x16 x17 hx1 hx3 hx6 hx7 hx9 (Or.inr ⟨_, rfl, rfl⟩) hx16 hx17 _ (by first | simpa only [if_neg h8, if_neg h9] using hf | contradiction)
    · replace hf := (if_neg h1).symm.trans hf
      refine go_icY (pc := 556) (pc' := 644) d48_556 (XT.ii_ge_t h1) j_556_88 ?_
      refine go_iinc (pc := 644) (L' := [.val (.ref 0), x1, .val (.int v2), x3, .val (.ref 1), .val (.ref 10), x6, x7, .val (.int v8), x9, .val (.int (v10 + (1 : Int32))), .val (.int v11), .val (.int v12), .val (.int v13), x14, x15, x16, x17]) d48_644 rfl ci_1 rfl (go_goto (pc := 647) (pc' := 509) d48_647 j_647_m138 ?_)
      exact hk509 v2 v8 (v10 + (1 : Int32)) q t0 t1 x1 x3 x6 x7 x9 (.val (.int v11)) (.val (.int v12)) (.val (.int v13)) x14 x15 x16 x17 hx1 hx3 hx6 hx7 hx9 (Or.inr ⟨_, rfl, rfl⟩) (Or.inr ⟨_, rfl, rfl⟩) (Or.inr ⟨_, rfl, rfl⟩) hx14 hx15 hx16 hx17 _ hf
set_option maxRecDepth 65536 in
set_option maxHeartbeats 4000000 in
theorem law_509_ok  : ∀ (n : Nat) (v2 : Int32) (v8 : Int32) (v10 : Int32) (q : List Int32) (t0 : S) (t1 : S) (x1 : Slot) (x3 : Slot) (x6 : Slot) (x7 : Slot) (x9 : Slot) (x11 : Slot) (x12 : Slot) (x13 : Slot) (x14 : Slot) (x15 : Slot) (x16 : Slot) (x17 : Slot) (hx1 : k1 x1) (hx3 : k1 x3) (hx6 : k1 x6) (hx7 : k1 x7) (hx9 : k1 x9) (hx11 : k1 x11) (hx12 : k1 x12) (hx13 : k1 x13) (hx14 : k1 x14) (hx15 : k1 x15) (hx16 : k1 x16) (hx17 : k1 x17) (o : Int32 × S × S), law_509 n v2 v8 v10 q t0 t1 = some o → Go PP m48 509 [.val (.ref 0), x1, .val (.int v2), x3, .val (.ref 1), .val (.ref 10), x6, x7, .val (.int v8), x9, .val (.int v10), x11, x12, x13, x14, x15, x16, x17] [] (some q, [(8, t0), (8, t1)]) (some (.int o.1), (some q, [(8, o.2.1), (8, o.2.2)])) := by
  intro n
  induction n with
  | zero => intro v2 v8 v10 q t0 t1 x1 x3 x6 x7 x9 x11 x12 x13 x14 x15 x16 x17 hx1 hx3 hx6 hx7 hx9 hx11 hx12 hx13 hx14 hx15 hx16 hx17 o hf; exact nomatch hf
  | succ n ih =>
    intro v2 v8 v10 q t0 t1 x1 x3 x6 x7 x9 x11 x12 x13 x14 x15 x16 x17 hx1 hx3 hx6 hx7 hx9 hx11 hx12 hx13 hx14 hx15 hx16 hx17 o hf
    unfold law_509 at hf
    refine go_iload (pc := 509) d48_509 rfl (go_iload (pc := 511) d48_511 rfl ?_)
    by_cases h1 : v10 < v8
    · replace hf := (if_pos h1).symm.trans hf
      refine go_icN (pc := 513) d48_513 (XT.ii_ge_f h1) ?_
      refine go_aload (pc := 516) d48_516 rfl (go_iload (pc := 518) d48_518 rfl (go_iloadN (pc := 520) d48_520 rfl ?_))
      by_cases e2 : v2 = 0
      · exact nomatch ((if_pos e2).symm.trans hf)
      replace hf := (if_neg e2).symm.trans hf
      refine go_idiv (pc := 521) d48_521 e2 ?_
      refine go_iload (pc := 522) d48_522 rfl (go_iloadN (pc := 524) d48_524 rfl ?_)
      by_cases e3 : v2 = 0
      · exact nomatch ((if_pos e3).symm.trans hf)
      replace hf := (if_neg e3).symm.trans hf
      refine go_irem (pc := 525) d48_525 e3 ?_
      obtain ⟨r526, e4, hf⟩ := Option.bind_eq_some_iff.mp hf
      refine go_virt (pc := 526) (i := 0) (as := [.int (v10 / v2), .int (v10 % v2)]) (rest := []) (w' := (some q, [(8, t0), (8, t1)])) lk_1_30 pd_23 rfl oid_0 rfl rfl rfl rfl rfl rfl ⟨rfl, rfl, rfl, rfl, rfl⟩ d48_526 (c_k_frameOf (v10 / v2) (v10 % v2) t0 _ e4) ?_
      refine go_istore (pc := 529) (L' := [.val (.ref 0), x1, .val (.int v2), x3, .val (.ref 1), .val (.ref 10), x6, x7, .val (.int v8), x9, .val (.int v10), .val (.int r526), x12, x13, x14, x15, x16, x17]) d48_529 (stx rfl hx11 rfl) (go_aload (pc := 531) d48_531 rfl (go_iload (pc := 533) d48_533 rfl (go_iloadN (pc := 535) d48_535 rfl ?_)))
      by_cases e5 : v2 = 0
      · exact nomatch ((if_pos e5).symm.trans hf)
      replace hf := (if_neg e5).symm.trans hf
      refine go_idiv (pc := 536) d48_536 e5 ?_
      refine go_iload (pc := 537) d48_537 rfl (go_iloadN (pc := 539) d48_539 rfl ?_)
      by_cases e6 : v2 = 0
      · exact nomatch ((if_pos e6).symm.trans hf)
      replace hf := (if_neg e6).symm.trans hf
      refine go_irem (pc := 540) d48_540 e6 ?_
      obtain ⟨r541, e7, hf⟩ := Option.bind_eq_some_iff.mp hf
      refine go_virt (pc := 541) (i := 1) (as := [.int (v10 / v2), .int (v10 % v2)]) (rest := []) (w' := (some q, [(8, t0), (8, t1)])) lk_1_30 pd_23 rfl oid_1 rfl rfl rfl rfl rfl rfl ⟨rfl, rfl, rfl, rfl, rfl⟩ d48_541 (c_k_frameOf (v10 / v2) (v10 % v2) t1 _ e7) ?_
      refine go_istore (pc := 544) (L' := [.val (.ref 0), x1, .val (.int v2), x3, .val (.ref 1), .val (.ref 10), x6, x7, .val (.int v8), x9, .val (.int v10), .val (.int r526), .val (.int r541), x13, x14, x15, x16, x17]) d48_544 (stx rfl hx12 rfl) (go_iload (pc := 546) d48_546 rfl (go_iconst (pc := 548) d48_548 ci_1 (go_iadd (pc := 549) d48_549 (go_istore (pc := 550) (L' := [.val (.ref 0), x1, .val (.int v2), x3, .val (.ref 1), .val (.ref 10), x6, x7, .val (.int v8), x9, .val (.int v10), .val (.int r526), .val (.int r541), .val (.int (v10 + (1 : Int32))), x14, x15, x16, x17]) d48_550 (stx rfl hx13 rfl) ?_))))
      exact law_552_ok ih BIG v2 v8 v10 r526 r541 (v10 + (1 : Int32)) q t0 t1 x1 x3 x6 x7 x9 x14 x15 x16 x17 hx1 hx3 hx6 hx7 hx9 hx14 hx15 hx16 hx17 _ hf
    · replace hf := (if_neg h1).symm.trans hf
      refine go_icY (pc := 513) (pc' := 650) d48_513 (XT.ii_ge_t h1) j_513_137 ?_
      refine go_iconst (pc := 650) d48_650 ci_1 ?_
      cases hf
      exact go_zret (pc := 651) rfl d48_651 (show (1 : Int32) = nar .boolean (1 : Int32) by decide)
set_option maxRecDepth 65536 in
set_option maxHeartbeats 4000000 in
theorem law_497_ok  : ∀ (v2 : Int32) (v6 : Int32) (v8 : Int32) (v9 : Int32) (q : List Int32) (t0 : S) (t1 : S) (x1 : Slot) (x3 : Slot) (x7 : Slot) (x10 : Slot) (x11 : Slot) (x12 : Slot) (x13 : Slot) (x14 : Slot) (hx1 : k1 x1) (hx3 : k1 x3) (hx7 : k1 x7) (hx10 : k1 x10) (hx11 : k1 x11) (hx12 : k1 x12) (hx13 : k1 x13) (hx14 : k1 x14) (o : Int32 × S × S), law_497 v2 v6 v8 v9 q t0 t1 = some o → Go PP m48 497 [.val (.ref 0), x1, .val (.int v2), x3, .val (.ref 1), .val (.ref 10), .val (.int v6), x7, .val (.int v8), .val (.int v9), x10, x11, x12, x13, x14, .unset, .unset, .unset] [] (some q, [(8, t0), (8, t1)]) (some (.int o.1), (some q, [(8, o.2.1), (8, o.2.2)])) := by
  intro v2 v6 v8 v9 q t0 t1 x1 x3 x7 x10 x11 x12 x13 x14 hx1 hx3 hx7 hx10 hx11 hx12 hx13 hx14 o hf
  unfold law_497 at hf
  refine go_iload (pc := 497) d48_497 rfl (go_iload (pc := 499) d48_499 rfl ?_)
  by_cases h1 : v9 = v6
  · replace hf := (if_pos h1).symm.trans hf
    refine go_icY (pc := 501) (pc' := 506) d48_501 (XT.ii_eq_t h1) j_501_5 ?_
    refine go_iconst (pc := 506) d48_506 ci_0 (go_istore (pc := 507) (L' := [.val (.ref 0), x1, .val (.int v2), x3, .val (.ref 1), .val (.ref 10), .val (.int v6), x7, .val (.int v8), .val (.int v9), .val (.int (0 : Int32)), x11, x12, x13, x14, .unset, .unset, .unset]) d48_507 (stx rfl hx10 rfl) ?_)
    exact law_509_ok BIG v2 v8 (0 : Int32) q t0 t1 x1 x3 (.val (.int v6)) x7 (.val (.int v9)) x11 x12 x13 x14 .unset .unset .unset hx1 hx3 (Or.inr ⟨_, rfl, rfl⟩) hx7 (Or.inr ⟨_, rfl, rfl⟩) hx11 hx12 hx13 hx14 (Or.inl rfl) (Or.inl rfl) (Or.inl rfl) _ hf
  · replace hf := (if_neg h1).symm.trans hf
    refine go_icN (pc := 501) d48_501 (XT.ii_eq_f h1) ?_
    refine go_iconst (pc := 504) d48_504 ci_0 ?_
    cases hf
    exact go_zret (pc := 505) rfl d48_505 (show (0 : Int32) = nar .boolean (0 : Int32) by decide)
def T_law_322 (k322 : Int32 → Int32 → Int32 → Int32 → Int32 → Int32 → List Int32 → S → S → Option (Int32 × S × S)) : Prop := ∀ (v1 : Int32) (v2 : Int32) (v6 : Int32) (v8 : Int32) (v9 : Int32) (v10 : Int32) (q : List Int32) (t0 : S) (t1 : S) (x3 : Slot) (x7 : Slot) (x11 : Slot) (x12 : Slot) (x13 : Slot) (x14 : Slot) (hx3 : k1 x3) (hx7 : k1 x7) (hx11 : k1 x11) (hx12 : k1 x12) (hx13 : k1 x13) (hx14 : k1 x14) (o : Int32 × S × S), k322 v1 v2 v6 v8 v9 v10 q t0 t1 = some o → Go PP m48 322 [.val (.ref 0), .val (.int v1), .val (.int v2), x3, .val (.ref 1), .val (.ref 10), .val (.int v6), x7, .val (.int v8), .val (.int v9), .val (.int v10), x11, x12, x13, x14, .unset, .unset, .unset] [] (some q, [(8, t0), (8, t1)]) (some (.int o.1), (some q, [(8, o.2.1), (8, o.2.2)]))
def T_law_423 (k423 : Int32 → Int32 → Int32 → Int32 → Int32 → Int32 → Int32 → List Int32 → S → S → Option (Int32 × S × S)) : Prop := ∀ (v1 : Int32) (v2 : Int32) (v6 : Int32) (v8 : Int32) (v9 : Int32) (v10 : Int32) (v12 : Int32) (q : List Int32) (t0 : S) (t1 : S) (x3 : Slot) (x7 : Slot) (x11 : Slot) (x13 : Slot) (x14 : Slot) (hx3 : k1 x3) (hx7 : k1 x7) (hx11 : k1 x11) (hx13 : k1 x13) (hx14 : k1 x14) (o : Int32 × S × S), k423 v1 v2 v6 v8 v9 v10 v12 q t0 t1 = some o → Go PP m48 423 [.val (.ref 0), .val (.int v1), .val (.int v2), x3, .val (.ref 1), .val (.ref 10), .val (.int v6), x7, .val (.int v8), .val (.int v9), .val (.int v10), x11, .val (.int v12), x13, x14, .unset, .unset, .unset] [] (some q, [(8, t0), (8, t1)]) (some (.int o.1), (some q, [(8, o.2.1), (8, o.2.2)]))
set_option maxRecDepth 65536 in
set_option maxHeartbeats 4000000 in
theorem law_480_ok {k322 : Int32 → Int32 → Int32 → Int32 → Int32 → Int32 → List Int32 → S → S → Option (Int32 × S × S)} {k423 : Int32 → Int32 → Int32 → Int32 → Int32 → Int32 → Int32 → List Int32 → S → S → Option (Int32 × S × S)} (hk322 : T_law_322 k322) (hk423 : T_law_423 k423) : ∀ (v1 : Int32) (v2 : Int32) (v6 : Int32) (v8 : Int32) (v9 : Int32) (v10 : Int32) (v12 : Int32) (p0 : Int32) (p1 : Int32) (q : List Int32) (t0 : S) (t1 : S) (x3 : Slot) (x7 : Slot) (x11 : Slot) (x13 : Slot) (x14 : Slot) (hx3 : k1 x3) (hx7 : k1 x7) (hx11 : k1 x11) (hx13 : k1 x13) (hx14 : k1 x14) (o : Int32 × S × S), law_480 k322 k423 v1 v2 v6 v8 v9 v10 v12 p0 p1 q t0 t1 = some o → Go PP m48 480 [.val (.ref 0), .val (.int v1), .val (.int v2), x3, .val (.ref 1), .val (.ref 10), .val (.int v6), x7, .val (.int v8), .val (.int v9), .val (.int v10), x11, .val (.int v12), x13, x14, .unset, .unset, .unset] [.int p0, .int p1] (some q, [(8, t0), (8, t1)]) (some (.int o.1), (some q, [(8, o.2.1), (8, o.2.2)])) := by
  intro v1 v2 v6 v8 v9 v10 v12 p0 p1 q t0 t1 x3 x7 x11 x13 x14 hx3 hx7 hx11 hx13 hx14 o hf
  unfold law_480 at hf
  by_cases h1 : p1 = p0
  · replace hf := (if_pos h1).symm.trans hf
    refine go_icY (pc := 480) (pc' := 485) d48_480 (XT.ii_eq_t h1) j_480_5 ?_
    refine go_iinc (pc := 485) (L' := [.val (.ref 0), .val (.int v1), .val (.int v2), x3, .val (.ref 1), .val (.ref 10), .val (.int v6), x7, .val (.int v8), .val (.int v9), .val (.int v10), x11, .val (.int (v12 + (1 : Int32))), x13, x14, .unset, .unset, .unset]) d48_485 rfl ci_1 rfl (go_goto (pc := 488) (pc' := 423) d48_488 j_488_m65 ?_)
    exact hk423 v1 v2 v6 v8 v9 v10 (v12 + (1 : Int32)) q t0 t1 x3 x7 x11 x13 x14 hx3 hx7 hx11 hx13 hx14 _ hf
  · replace hf := (if_neg h1).symm.trans hf
    refine go_icN (pc := 480) d48_480 (XT.ii_eq_f h1) ?_
    refine go_iconst (pc := 483) d48_483 ci_0 ?_
    cases hf
    exact go_zret (pc := 484) rfl d48_484 (show (0 : Int32) = nar .boolean (0 : Int32) by decide)
set_option maxRecDepth 65536 in
set_option maxHeartbeats 4000000 in
theorem law_461_ok {k322 : Int32 → Int32 → Int32 → Int32 → Int32 → Int32 → List Int32 → S → S → Option (Int32 × S × S)} {k423 : Int32 → Int32 → Int32 → Int32 → Int32 → Int32 → Int32 → List Int32 → S → S → Option (Int32 × S × S)} (hk322 : T_law_322 k322) (hk423 : T_law_423 k423) : ∀ (v1 : Int32) (v2 : Int32) (v6 : Int32) (v8 : Int32) (v9 : Int32) (v10 : Int32) (v12 : Int32) (v13 : Int32) (v14 : Int32) (p0 : Int32) (q : List Int32) (t0 : S) (t1 : S) (x3 : Slot) (x7 : Slot) (x11 : Slot) (hx3 : k1 x3) (hx7 : k1 x7) (hx11 : k1 x11) (o : Int32 × S × S), law_461 k322 k423 v1 v2 v6 v8 v9 v10 v12 v13 v14 p0 q t0 t1 = some o → Go PP m48 461 [.val (.ref 0), .val (.int v1), .val (.int v2), x3, .val (.ref 1), .val (.ref 10), .val (.int v6), x7, .val (.int v8), .val (.int v9), .val (.int v10), x11, .val (.int v12), .val (.int v13), .val (.int v14), .unset, .unset, .unset] [.int p0] (some q, [(8, t0), (8, t1)]) (some (.int o.1), (some q, [(8, o.2.1), (8, o.2.2)])) := by
  intro v1 v2 v6 v8 v9 v10 v12 v13 v14 p0 q t0 t1 x3 x7 x11 hx3 hx7 hx11 o hf
  unfold law_461 at hf
  refine go_aload (pc := 461) d48_461 rfl (go_iload (pc := 463) d48_463 rfl (go_iload (pc := 465) d48_465 rfl ?_))
  obtain ⟨r467, e1, hf⟩ := Option.bind_eq_some_iff.mp hf
  refine go_virt (pc := 467) (i := 1) (as := [.int v13, .int v14]) (rest := [.int p0]) (w' := (some q, [(8, t0), (8, t1)])) lk_1_30 pd_23 rfl oid_1 rfl rfl rfl rfl rfl rfl ⟨rfl, rfl, rfl, rfl, rfl⟩ d48_467 (c_k_frameOf v13 v14 t1 _ e1) ?_
  refine go_iload (pc := 470) d48_470 rfl ?_
  by_cases h2 : r467 = v10
  · refine go_icN (pc := 472) d48_472 (XT.ii_ne_f h2) ?_
    refine go_iconst (pc := 475) d48_475 ci_1 (go_goto (pc := 476) (pc' := 480) d48_476 j_476_4 ?_)
    exact law_480_ok hk322 hk423 v1 v2 v6 v8 v9 v10 v12 (1 : Int32) p0 q t0 t1 x3 x7 x11 (.val (.int v13)) (.val (.int v14)) hx3 hx7 hx11 (Or.inr ⟨_, rfl, rfl⟩) (Or.inr ⟨_, rfl, rfl⟩) _ (by first | simpa only [if_pos h2] using hf | contradiction)
  · refine go_icY (pc := 472) (pc' := 479) d48_472 (XT.ii_ne_t h2) j_472_7 ?_
    refine go_iconst (pc := 479) d48_479 ci_0 ?_
    exact law_480_ok hk322 hk423 v1 v2 v6 v8 v9 v10 v12 (0 : Int32) p0 q t0 t1 x3 x7 x11 (.val (.int v13)) (.val (.int v14)) hx3 hx7 hx11 (Or.inr ⟨_, rfl, rfl⟩) (Or.inr ⟨_, rfl, rfl⟩) _ (by first | simpa only [if_neg h2] using hf | contradiction)
set_option maxRecDepth 65536 in
set_option maxHeartbeats 4000000 in
theorem law_423_ok {k322 : Int32 → Int32 → Int32 → Int32 → Int32 → Int32 → List Int32 → S → S → Option (Int32 × S × S)} (hk322 : T_law_322 k322) : ∀ (n : Nat) (v1 : Int32) (v2 : Int32) (v6 : Int32) (v8 : Int32) (v9 : Int32) (v10 : Int32) (v12 : Int32) (q : List Int32) (t0 : S) (t1 : S) (x3 : Slot) (x7 : Slot) (x11 : Slot) (x13 : Slot) (x14 : Slot) (hx3 : k1 x3) (hx7 : k1 x7) (hx11 : k1 x11) (hx13 : k1 x13) (hx14 : k1 x14) (o : Int32 × S × S), law_423 k322 n v1 v2 v6 v8 v9 v10 v12 q t0 t1 = some o → Go PP m48 423 [.val (.ref 0), .val (.int v1), .val (.int v2), x3, .val (.ref 1), .val (.ref 10), .val (.int v6), x7, .val (.int v8), .val (.int v9), .val (.int v10), x11, .val (.int v12), x13, x14, .unset, .unset, .unset] [] (some q, [(8, t0), (8, t1)]) (some (.int o.1), (some q, [(8, o.2.1), (8, o.2.2)])) := by
  intro n
  induction n with
  | zero => intro v1 v2 v6 v8 v9 v10 v12 q t0 t1 x3 x7 x11 x13 x14 hx3 hx7 hx11 hx13 hx14 o hf; exact nomatch hf
  | succ n ih =>
    intro v1 v2 v6 v8 v9 v10 v12 q t0 t1 x3 x7 x11 x13 x14 hx3 hx7 hx11 hx13 hx14 o hf
    unfold law_423 at hf
    refine go_iload (pc := 423) d48_423 rfl (go_iload (pc := 425) d48_425 rfl ?_)
    by_cases h1 : v12 < v8
    · replace hf := (if_pos h1).symm.trans hf
      refine go_icN (pc := 427) d48_427 (XT.ii_ge_f h1) ?_
      refine go_iload (pc := 430) d48_430 rfl (go_iloadN (pc := 432) d48_432 rfl ?_)
      by_cases e2 : v2 = 0
      · exact nomatch ((if_pos e2).symm.trans hf)
      replace hf := (if_neg e2).symm.trans hf
      refine go_idiv (pc := 433) d48_433 e2 ?_
      refine go_istore (pc := 434) (L' := [.val (.ref 0), .val (.int v1), .val (.int v2), x3, .val (.ref 1), .val (.ref 10), .val (.int v6), x7, .val (.int v8), .val (.int v9), .val (.int v10), x11, .val (.int v12), .val (.int (v12 / v2)), x14, .unset, .unset, .unset]) d48_434 (stx rfl hx13 rfl) (go_iload (pc := 436) d48_436 rfl (go_iloadN (pc := 438) d48_438 rfl ?_))
      by_cases e3 : v2 = 0
      · exact nomatch ((if_pos e3).symm.trans hf)
      replace hf := (if_neg e3).symm.trans hf
      refine go_irem (pc := 439) d48_439 e3 ?_
      refine go_istore (pc := 440) (L' := [.val (.ref 0), .val (.int v1), .val (.int v2), x3, .val (.ref 1), .val (.ref 10), .val (.int v6), x7, .val (.int v8), .val (.int v9), .val (.int v10), x11, .val (.int v12), .val (.int (v12 / v2)), .val (.int (v12 % v2)), .unset, .unset, .unset]) d48_440 (stx rfl hx14 rfl) (go_aload (pc := 442) d48_442 rfl (go_iload (pc := 444) d48_444 rfl (go_iload (pc := 446) d48_446 rfl ?_)))
      obtain ⟨r448, e4, hf⟩ := Option.bind_eq_some_iff.mp hf
      refine go_virt (pc := 448) (i := 0) (as := [.int (v12 / v2), .int (v12 % v2)]) (rest := []) (w' := (some q, [(8, t0), (8, t1)])) lk_1_30 pd_23 rfl oid_0 rfl rfl rfl rfl rfl rfl ⟨rfl, rfl, rfl, rfl, rfl⟩ d48_448 (c_k_frameOf (v12 / v2) (v12 % v2) t0 _ e4) ?_
      refine go_iload (pc := 451) d48_451 rfl ?_
      by_cases h5 : r448 = v10
      · refine go_icN (pc := 453) d48_453 (XT.ii_ne_f h5) ?_
        refine go_iconst (pc := 456) d48_456 ci_1 (go_goto (pc := 457) (pc' := 461) d48_457 j_457_4 ?_)
        exact law_461_ok hk322 ih v1 v2 v6 v8 v9 v10 v12 (v12 / v2) (v12 % v2) (1 : Int32) q t0 t1 x3 x7 x11 hx3 hx7 hx11 _ (by first | simpa only [if_pos h5] using hf | contradiction)
      · refine go_icY (pc := 453) (pc' := 460) d48_453 (XT.ii_ne_t h5) j_453_7 ?_
        refine go_iconst (pc := 460) d48_460 ci_0 ?_
        exact law_461_ok hk322 ih v1 v2 v6 v8 v9 v10 v12 (v12 / v2) (v12 % v2) (0 : Int32) q t0 t1 x3 x7 x11 hx3 hx7 hx11 _ (by first | simpa only [if_neg h5] using hf | contradiction)
    · replace hf := (if_neg h1).symm.trans hf
      refine go_icY (pc := 427) (pc' := 491) d48_427 (XT.ii_ge_t h1) j_427_64 ?_
      refine go_iinc (pc := 491) (L' := [.val (.ref 0), .val (.int v1), .val (.int v2), x3, .val (.ref 1), .val (.ref 10), .val (.int v6), x7, .val (.int v8), .val (.int v9), .val (.int (v10 + (1 : Int32))), x11, .val (.int v12), x13, x14, .unset, .unset, .unset]) d48_491 rfl ci_1 rfl (go_goto (pc := 494) (pc' := 322) d48_494 j_494_m172 ?_)
      exact hk322 v1 v2 v6 v8 v9 (v10 + (1 : Int32)) q t0 t1 x3 x7 x11 (.val (.int v12)) x13 x14 hx3 hx7 hx11 (Or.inr ⟨_, rfl, rfl⟩) hx13 hx14 _ hf
set_option maxRecDepth 65536 in
set_option maxHeartbeats 4000000 in
theorem law_368_ok {k322 : Int32 → Int32 → Int32 → Int32 → Int32 → Int32 → List Int32 → S → S → Option (Int32 × S × S)} (hk322 : T_law_322 k322) : ∀ (v1 : Int32) (v2 : Int32) (v6 : Int32) (v8 : Int32) (v9 : Int32) (v10 : Int32) (v11 : Int32) (q : List Int32) (t0 : S) (t1 : S) (x3 : Slot) (x7 : Slot) (x12 : Slot) (x13 : Slot) (x14 : Slot) (hx3 : k1 x3) (hx7 : k1 x7) (hx12 : k1 x12) (hx13 : k1 x13) (hx14 : k1 x14) (o : Int32 × S × S), law_368 k322 v1 v2 v6 v8 v9 v10 v11 q t0 t1 = some o → Go PP m48 368 [.val (.ref 0), .val (.int v1), .val (.int v2), x3, .val (.ref 1), .val (.ref 10), .val (.int v6), x7, .val (.int v8), .val (.int v9), .val (.int v10), .val (.int v11), x12, x13, x14, .unset, .unset, .unset] [] (some q, [(8, t0), (8, t1)]) (some (.int o.1), (some q, [(8, o.2.1), (8, o.2.2)])) := by
  intro v1 v2 v6 v8 v9 v10 v11 q t0 t1 x3 x7 x12 x13 x14 hx3 hx7 hx12 hx13 hx14 o hf
  unfold law_368 at hf
  refine go_aload (pc := 368) d48_368 rfl (go_iload (pc := 370) d48_370 rfl ?_)
  obtain ⟨r372, e1, hf⟩ := Option.bind_eq_some_iff.mp hf
  refine go_virt (pc := 372) (i := 0) (as := [.int v10]) (rest := []) (w' := (some q, [(8, t0), (8, t1)])) lk_1_68 pd_45 rfl oid_0 rfl rfl rfl rfl rfl rfl ⟨rfl, rfl, rfl, rfl, rfl⟩ d48_372 (c_k_frameState v10 t0 _ e1) ?_
  refine go_iload (pc := 375) d48_375 rfl ?_
  by_cases h2 : r372 = v11
  · replace hf := (if_pos h2).symm.trans hf
    refine go_icY (pc := 377) (pc' := 382) d48_377 (XT.ii_eq_t h2) j_377_5 ?_
    refine go_aload (pc := 382) d48_382 rfl (go_iload (pc := 384) d48_384 rfl ?_)
    obtain ⟨r386, e3, hf⟩ := Option.bind_eq_some_iff.mp hf
    refine go_virt (pc := 386) (i := 0) (as := [.int v10]) (rest := []) (w' := (some q, [(8, t0), (8, t1)])) lk_1_71 pd_46 rfl oid_0 rfl rfl rfl rfl rfl rfl ⟨rfl, rfl, rfl, rfl, rfl⟩ d48_386 (c_k_frameValue v10 t0 _ e3) ?_
    refine go_aload (pc := 389) d48_389 rfl (go_iload (pc := 391) d48_391 rfl ?_)
    obtain ⟨r393, e4, hf⟩ := Option.bind_eq_some_iff.mp hf
    refine go_virt (pc := 393) (i := 1) (as := [.int v10]) (rest := [.int r386]) (w' := (some q, [(8, t0), (8, t1)])) lk_1_71 pd_46 rfl oid_1 rfl rfl rfl rfl rfl rfl ⟨rfl, rfl, rfl, rfl, rfl⟩ d48_393 (c_k_frameValue v10 t1 _ e4) ?_
    by_cases h5 : r386 = r393
    · replace hf := (if_pos h5).symm.trans hf
      refine go_icY (pc := 396) (pc' := 401) d48_396 (XT.ii_eq_t h5) j_396_5 ?_
      refine go_aload (pc := 401) d48_401 rfl (go_iload (pc := 403) d48_403 rfl ?_)
      obtain ⟨r405, e6, hf⟩ := Option.bind_eq_some_iff.mp hf
      refine go_virt (pc := 405) (i := 0) (as := [.int v10]) (rest := []) (w' := (some q, [(8, t0), (8, t1)])) lk_1_74 pd_47 rfl oid_0 rfl rfl rfl rfl rfl rfl ⟨rfl, rfl, rfl, rfl, rfl⟩ d48_405 (c_k_mapCount v10 t0 _ e6) ?_
      refine go_aload (pc := 408) d48_408 rfl (go_iload (pc := 410) d48_410 rfl ?_)
      obtain ⟨r412, e7, hf⟩ := Option.bind_eq_some_iff.mp hf
      refine go_virt (pc := 412) (i := 1) (as := [.int v10]) (rest := [.int r405]) (w' := (some q, [(8, t0), (8, t1)])) lk_1_74 pd_47 rfl oid_1 rfl rfl rfl rfl rfl rfl ⟨rfl, rfl, rfl, rfl, rfl⟩ d48_412 (c_k_mapCount v10 t1 _ e7) ?_
      by_cases h8 : r405 = r412
      · replace hf := (if_pos h8).symm.trans hf
        refine go_icY (pc := 415) (pc' := 420) d48_415 (XT.ii_eq_t h8) j_415_5 ?_
        refine go_iconst (pc := 420) d48_420 ci_0 (go_istore (pc := 421) (L' := [.val (.ref 0), .val (.int v1), .val (.int v2), x3, .val (.ref 1), .val (.ref 10), .val (.int v6), x7, .val (.int v8), .val (.int v9), .val (.int v10), .val (.int v11), .val (.int (0 : Int32)), x13, x14, .unset, .unset, .unset]) d48_421 (stx rfl hx12 rfl) ?_)
        exact law_423_ok hk322 BIG v1 v2 v6 v8 v9 v10 (0 : Int32) q t0 t1 x3 x7 (.val (.int v11)) x13 x14 hx3 hx7 (Or.inr ⟨_, rfl, rfl⟩) hx13 hx14 _ hf
      · replace hf := (if_neg h8).symm.trans hf
        refine go_icN (pc := 415) d48_415 (XT.ii_eq_f h8) ?_
        refine go_iconst (pc := 418) d48_418 ci_0 ?_
        cases hf
        exact go_zret (pc := 419) rfl d48_419 (show (0 : Int32) = nar .boolean (0 : Int32) by decide)
    · replace hf := (if_neg h5).symm.trans hf
      refine go_icN (pc := 396) d48_396 (XT.ii_eq_f h5) ?_
      refine go_iconst (pc := 399) d48_399 ci_0 ?_
      cases hf
      exact go_zret (pc := 400) rfl d48_400 (show (0 : Int32) = nar .boolean (0 : Int32) by decide)
  · replace hf := (if_neg h2).symm.trans hf
    refine go_icN (pc := 377) d48_377 (XT.ii_eq_f h2) ?_
    refine go_iconst (pc := 380) d48_380 ci_0 ?_
    cases hf
    exact go_zret (pc := 381) rfl d48_381 (show (0 : Int32) = nar .boolean (0 : Int32) by decide)
set_option maxRecDepth 65536 in
set_option maxHeartbeats 4000000 in
theorem law_356_ok {k322 : Int32 → Int32 → Int32 → Int32 → Int32 → Int32 → List Int32 → S → S → Option (Int32 × S × S)} (hk322 : T_law_322 k322) : ∀ (v1 : Int32) (v2 : Int32) (v6 : Int32) (v8 : Int32) (v9 : Int32) (v10 : Int32) (v11 : Int32) (q : List Int32) (t0 : S) (t1 : S) (x3 : Slot) (x7 : Slot) (x12 : Slot) (x13 : Slot) (x14 : Slot) (hx3 : k1 x3) (hx7 : k1 x7) (hx12 : k1 x12) (hx13 : k1 x13) (hx14 : k1 x14) (o : Int32 × S × S), law_356 k322 v1 v2 v6 v8 v9 v10 v11 q t0 t1 = some o → Go PP m48 356 [.val (.ref 0), .val (.int v1), .val (.int v2), x3, .val (.ref 1), .val (.ref 10), .val (.int v6), x7, .val (.int v8), .val (.int v9), .val (.int v10), .val (.int v11), x12, x13, x14, .unset, .unset, .unset] [] (some q, [(8, t0), (8, t1)]) (some (.int o.1), (some q, [(8, o.2.1), (8, o.2.2)])) := by
  intro v1 v2 v6 v8 v9 v10 v11 q t0 t1 x3 x7 x12 x13 x14 hx3 hx7 hx12 hx13 hx14 o hf
  unfold law_356 at hf
  refine go_iload (pc := 356) d48_356 rfl (go_iconst (pc := 358) d48_358 ci_2 ?_)
  by_cases h1 : v11 = (2 : Int32)
  · replace hf := (if_pos h1).symm.trans hf
    refine go_icY (pc := 359) (pc' := 368) d48_359 (XT.ii_eq_t h1) j_359_9 ?_
    exact law_368_ok hk322 v1 v2 v6 v8 v9 v10 v11 q t0 t1 x3 x7 x12 x13 x14 hx3 hx7 hx12 hx13 hx14 _ hf
  · replace hf := (if_neg h1).symm.trans hf
    refine go_icN (pc := 359) d48_359 (XT.ii_eq_f h1) ?_
    refine go_iload (pc := 362) d48_362 rfl (go_iconst (pc := 364) d48_364 ci_3 ?_)
    by_cases h2 : v11 = (3 : Int32)
    · replace hf := (if_pos h2).symm.trans hf
      refine go_icN (pc := 365) d48_365 (XT.ii_ne_f h2) ?_
      exact law_368_ok hk322 v1 v2 v6 v8 v9 v10 v11 q t0 t1 x3 x7 x12 x13 x14 hx3 hx7 hx12 hx13 hx14 _ hf
    · replace hf := (if_neg h2).symm.trans hf
      refine go_icY (pc := 365) (pc' := 491) d48_365 (XT.ii_ne_t h2) j_365_126 ?_
      refine go_iinc (pc := 491) (L' := [.val (.ref 0), .val (.int v1), .val (.int v2), x3, .val (.ref 1), .val (.ref 10), .val (.int v6), x7, .val (.int v8), .val (.int v9), .val (.int (v10 + (1 : Int32))), .val (.int v11), x12, x13, x14, .unset, .unset, .unset]) d48_491 rfl ci_1 rfl (go_goto (pc := 494) (pc' := 322) d48_494 j_494_m172 ?_)
      exact hk322 v1 v2 v6 v8 v9 (v10 + (1 : Int32)) q t0 t1 x3 x7 (.val (.int v11)) x12 x13 x14 hx3 hx7 (Or.inr ⟨_, rfl, rfl⟩) hx12 hx13 hx14 _ hf
set_option maxRecDepth 65536 in
set_option maxHeartbeats 4000000 in
theorem law_322_ok  : ∀ (n : Nat) (v1 : Int32) (v2 : Int32) (v6 : Int32) (v8 : Int32) (v9 : Int32) (v10 : Int32) (q : List Int32) (t0 : S) (t1 : S) (x3 : Slot) (x7 : Slot) (x11 : Slot) (x12 : Slot) (x13 : Slot) (x14 : Slot) (hx3 : k1 x3) (hx7 : k1 x7) (hx11 : k1 x11) (hx12 : k1 x12) (hx13 : k1 x13) (hx14 : k1 x14) (o : Int32 × S × S), law_322 n v1 v2 v6 v8 v9 v10 q t0 t1 = some o → Go PP m48 322 [.val (.ref 0), .val (.int v1), .val (.int v2), x3, .val (.ref 1), .val (.ref 10), .val (.int v6), x7, .val (.int v8), .val (.int v9), .val (.int v10), x11, x12, x13, x14, .unset, .unset, .unset] [] (some q, [(8, t0), (8, t1)]) (some (.int o.1), (some q, [(8, o.2.1), (8, o.2.2)])) := by
  intro n
  induction n with
  | zero => intro v1 v2 v6 v8 v9 v10 q t0 t1 x3 x7 x11 x12 x13 x14 hx3 hx7 hx11 hx12 hx13 hx14 o hf; exact nomatch hf
  | succ n ih =>
    intro v1 v2 v6 v8 v9 v10 q t0 t1 x3 x7 x11 x12 x13 x14 hx3 hx7 hx11 hx12 hx13 hx14 o hf
    unfold law_322 at hf
    refine go_iload (pc := 322) d48_322 rfl (go_iloadN (pc := 324) d48_324 rfl ?_)
    by_cases h1 : v10 < v1
    · replace hf := (if_pos h1).symm.trans hf
      refine go_icN (pc := 325) d48_325 (XT.ii_ge_f h1) ?_
      refine go_aload (pc := 328) d48_328 rfl (go_iload (pc := 330) d48_330 rfl ?_)
      obtain ⟨r332, e2, hf⟩ := Option.bind_eq_some_iff.mp hf
      refine go_virt (pc := 332) (i := 1) (as := [.int v10]) (rest := []) (w' := (some q, [(8, t0), (8, t1)])) lk_1_68 pd_45 rfl oid_1 rfl rfl rfl rfl rfl rfl ⟨rfl, rfl, rfl, rfl, rfl⟩ d48_332 (c_k_frameState v10 t1 _ e2) ?_
      refine go_istore (pc := 335) (L' := [.val (.ref 0), .val (.int v1), .val (.int v2), x3, .val (.ref 1), .val (.ref 10), .val (.int v6), x7, .val (.int v8), .val (.int v9), .val (.int v10), .val (.int r332), x12, x13, x14, .unset, .unset, .unset]) d48_335 (stx rfl hx11 rfl) (go_iload (pc := 337) d48_337 rfl (go_iconst (pc := 339) d48_339 ci_1 ?_))
      by_cases h3 : r332 = (1 : Int32)
      · replace hf := (if_pos h3).symm.trans hf
        refine go_icN (pc := 340) d48_340 (XT.ii_ne_f h3) ?_
        refine go_aload (pc := 343) d48_343 rfl (go_iload (pc := 345) d48_345 rfl ?_)
        obtain ⟨r347, e4, hf⟩ := Option.bind_eq_some_iff.mp hf
        refine go_virt (pc := 347) (i := 0) (as := [.int v10]) (rest := []) (w' := (some q, [(8, t0), (8, t1)])) lk_1_68 pd_45 rfl oid_0 rfl rfl rfl rfl rfl rfl ⟨rfl, rfl, rfl, rfl, rfl⟩ d48_347 (c_k_frameState v10 t0 _ e4) ?_
        by_cases h5 : r347 = 0
        · refine go_ifN (pc := 350) d48_350 (XT.i0_ne_f h5) ?_
          refine go_iinc (pc := 353) (L' := [.val (.ref 0), .val (.int v1), .val (.int v2), x3, .val (.ref 1), .val (.ref 10), .val (.int v6), x7, .val (.int v8), .val (.int (v9 + (1 : Int32))), .val (.int v10), .val (.int r332), x12, x13, x14, .unset, .unset, .unset]) d48_353 rfl ci_1 rfl ?_
          exact law_356_ok ih v1 v2 v6 v8 (v9 + (1 : Int32)) v10 r332 q t0 t1 x3 x7 x12 x13 x14 hx3 hx7 hx12 hx13 hx14 _ (by first | simpa only [if_pos h5] using hf | contradiction)
        · refine go_ifY (pc := 350) (pc' := 356) d48_350 (XT.i0_ne_t h5) j_350_6 ?_
          exact law_356_ok ih v1 v2 v6 v8 v9 v10 r332 q t0 t1 x3 x7 x12 x13 x14 hx3 hx7 hx12 hx13 hx14 _ (by first | simpa only [if_neg h5] using hf | contradiction)
      · replace hf := (if_neg h3).symm.trans hf
        refine go_icY (pc := 340) (pc' := 356) d48_340 (XT.ii_ne_t h3) j_340_16 ?_
        exact law_356_ok ih v1 v2 v6 v8 v9 v10 r332 q t0 t1 x3 x7 x12 x13 x14 hx3 hx7 hx12 hx13 hx14 _ hf
    · replace hf := (if_neg h1).symm.trans hf
      refine go_icY (pc := 325) (pc' := 497) d48_325 (XT.ii_ge_t h1) j_325_172 ?_
      exact law_497_ok v2 v6 v8 v9 q t0 t1 (.val (.int v1)) x3 x7 (.val (.int v10)) x11 x12 x13 x14 (Or.inr ⟨_, rfl, rfl⟩) hx3 hx7 (Or.inr ⟨_, rfl, rfl⟩) hx11 hx12 hx13 hx14 _ hf
set_option maxRecDepth 65536 in
set_option maxHeartbeats 4000000 in
theorem law_316_ok  : ∀ (v1 : Int32) (v2 : Int32) (v6 : Int32) (v8 : Int32) (q : List Int32) (t0 : S) (t1 : S) (x3 : Slot) (x7 : Slot) (x9 : Slot) (x10 : Slot) (x11 : Slot) (x12 : Slot) (x13 : Slot) (hx3 : k1 x3) (hx7 : k1 x7) (hx9 : k1 x9) (hx10 : k1 x10) (hx11 : k1 x11) (hx12 : k1 x12) (hx13 : k1 x13) (o : Int32 × S × S), law_316 v1 v2 v6 v8 q t0 t1 = some o → Go PP m48 316 [.val (.ref 0), .val (.int v1), .val (.int v2), x3, .val (.ref 1), .val (.ref 10), .val (.int v6), x7, .val (.int v8), x9, x10, x11, x12, x13, .unset, .unset, .unset, .unset] [] (some q, [(8, t0), (8, t1)]) (some (.int o.1), (some q, [(8, o.2.1), (8, o.2.2)])) := by
  intro v1 v2 v6 v8 q t0 t1 x3 x7 x9 x10 x11 x12 x13 hx3 hx7 hx9 hx10 hx11 hx12 hx13 o hf
  unfold law_316 at hf
  refine go_iconst (pc := 316) d48_316 ci_0 (go_istore (pc := 317) (L' := [.val (.ref 0), .val (.int v1), .val (.int v2), x3, .val (.ref 1), .val (.ref 10), .val (.int v6), x7, .val (.int v8), .val (.int (0 : Int32)), x10, x11, x12, x13, .unset, .unset, .unset, .unset]) d48_317 (stx rfl hx9 rfl) (go_iconst (pc := 319) d48_319 ci_0 (go_istore (pc := 320) (L' := [.val (.ref 0), .val (.int v1), .val (.int v2), x3, .val (.ref 1), .val (.ref 10), .val (.int v6), x7, .val (.int v8), .val (.int (0 : Int32)), .val (.int (0 : Int32)), x11, x12, x13, .unset, .unset, .unset, .unset]) d48_320 (stx rfl hx10 rfl) ?_)))
  exact law_322_ok BIG v1 v2 v6 v8 (0 : Int32) (0 : Int32) q t0 t1 x3 x7 x11 x12 x13 .unset hx3 hx7 hx11 hx12 hx13 (Or.inl rfl) _ hf
def T_law_219 (k219 : Int32 → Int32 → Int32 → Int32 → Int32 → List Int32 → S → S → Option (Int32 × S × S)) : Prop := ∀ (v1 : Int32) (v2 : Int32) (v6 : Int32) (v8 : Int32) (v9 : Int32) (q : List Int32) (t0 : S) (t1 : S) (x3 : Slot) (x7 : Slot) (x10 : Slot) (x11 : Slot) (x12 : Slot) (x13 : Slot) (hx3 : k1 x3) (hx7 : k1 x7) (hx10 : k1 x10) (hx11 : k1 x11) (hx12 : k1 x12) (hx13 : k1 x13) (o : Int32 × S × S), k219 v1 v2 v6 v8 v9 q t0 t1 = some o → Go PP m48 219 [.val (.ref 0), .val (.int v1), .val (.int v2), x3, .val (.ref 1), .val (.ref 10), .val (.int v6), x7, .val (.int v8), .val (.int v9), x10, x11, x12, x13, .unset, .unset, .unset, .unset] [] (some q, [(8, t0), (8, t1)]) (some (.int o.1), (some q, [(8, o.2.1), (8, o.2.2)]))
set_option maxRecDepth 65536 in
set_option maxHeartbeats 4000000 in
theorem law_299_ok {k219 : Int32 → Int32 → Int32 → Int32 → Int32 → List Int32 → S → S → Option (Int32 × S × S)} (hk219 : T_law_219 k219) : ∀ (v1 : Int32) (v2 : Int32) (v6 : Int32) (v8 : Int32) (v9 : Int32) (v12 : Int32) (p0 : Int32) (q : List Int32) (t0 : S) (t1 : S) (x3 : Slot) (x7 : Slot) (x10 : Slot) (x11 : Slot) (x13 : Slot) (hx3 : k1 x3) (hx7 : k1 x7) (hx10 : k1 x10) (hx11 : k1 x11) (hx13 : k1 x13) (o : Int32 × S × S), law_299 k219 v1 v2 v6 v8 v9 v12 p0 q t0 t1 = some o → Go PP m48 299 [.val (.ref 0), .val (.int v1), .val (.int v2), x3, .val (.ref 1), .val (.ref 10), .val (.int v6), x7, .val (.int v8), .val (.int v9), x10, x11, .val (.int v12), x13, .unset, .unset, .unset, .unset] [.int p0] (some q, [(8, t0), (8, t1)]) (some (.int o.1), (some q, [(8, o.2.1), (8, o.2.2)])) := by
  intro v1 v2 v6 v8 v9 v12 p0 q t0 t1 x3 x7 x10 x11 x13 hx3 hx7 hx10 hx11 hx13 o hf
  unfold law_299 at hf
  refine go_istore (pc := 299) (L' := [.val (.ref 0), .val (.int v1), .val (.int v2), x3, .val (.ref 1), .val (.ref 10), .val (.int v6), x7, .val (.int v8), .val (.int v9), x10, x11, .val (.int v12), .val (.int p0), .unset, .unset, .unset, .unset]) d48_299 (stx rfl hx13 rfl) (go_iload (pc := 301) d48_301 rfl (go_iload (pc := 303) d48_303 rfl ?_))
  by_cases h1 : v12 = p0
  · replace hf := (if_pos h1).symm.trans hf
    refine go_icY (pc := 305) (pc' := 310) d48_305 (XT.ii_eq_t h1) j_305_5 ?_
    refine go_iinc (pc := 310) (L' := [.val (.ref 0), .val (.int v1), .val (.int v2), x3, .val (.ref 1), .val (.ref 10), .val (.int v6), x7, .val (.int v8), .val (.int (v9 + (1 : Int32))), x10, x11, .val (.int v12), .val (.int p0), .unset, .unset, .unset, .unset]) d48_310 rfl ci_1 rfl (go_goto (pc := 313) (pc' := 219) d48_313 j_313_m94 ?_)
    exact hk219 v1 v2 v6 v8 (v9 + (1 : Int32)) q t0 t1 x3 x7 x10 x11 (.val (.int v12)) (.val (.int p0)) hx3 hx7 hx10 hx11 (Or.inr ⟨_, rfl, rfl⟩) (Or.inr ⟨_, rfl, rfl⟩) _ hf
  · replace hf := (if_neg h1).symm.trans hf
    refine go_icN (pc := 305) d48_305 (XT.ii_eq_f h1) ?_
    refine go_iconst (pc := 308) d48_308 ci_0 ?_
    cases hf
    exact go_zret (pc := 309) rfl d48_309 (show (0 : Int32) = nar .boolean (0 : Int32) by decide)
set_option maxRecDepth 65536 in
set_option maxHeartbeats 4000000 in
theorem law_279_ok {k219 : Int32 → Int32 → Int32 → Int32 → Int32 → List Int32 → S → S → Option (Int32 × S × S)} (hk219 : T_law_219 k219) : ∀ (v1 : Int32) (v2 : Int32) (v6 : Int32) (v8 : Int32) (v9 : Int32) (v10 : Int32) (v11 : Int32) (p0 : Int32) (q : List Int32) (t0 : S) (t1 : S) (x3 : Slot) (x7 : Slot) (x12 : Slot) (x13 : Slot) (hx3 : k1 x3) (hx7 : k1 x7) (hx12 : k1 x12) (hx13 : k1 x13) (o : Int32 × S × S), law_279 k219 v1 v2 v6 v8 v9 v10 v11 p0 q t0 t1 = some o → Go PP m48 279 [.val (.ref 0), .val (.int v1), .val (.int v2), x3, .val (.ref 1), .val (.ref 10), .val (.int v6), x7, .val (.int v8), .val (.int v9), .val (.int v10), .val (.int v11), x12, x13, .unset, .unset, .unset, .unset] [.int p0] (some q, [(8, t0), (8, t1)]) (some (.int o.1), (some q, [(8, o.2.1), (8, o.2.2)])) := by
  intro v1 v2 v6 v8 v9 v10 v11 p0 q t0 t1 x3 x7 x12 x13 hx3 hx7 hx12 hx13 o hf
  unfold law_279 at hf
  refine go_istore (pc := 279) (L' := [.val (.ref 0), .val (.int v1), .val (.int v2), x3, .val (.ref 1), .val (.ref 10), .val (.int v6), x7, .val (.int v8), .val (.int v9), .val (.int v10), .val (.int v11), .val (.int p0), x13, .unset, .unset, .unset, .unset]) d48_279 (stx rfl hx12 rfl) (go_aload (pc := 281) d48_281 rfl (go_iload (pc := 283) d48_283 rfl (go_iload (pc := 285) d48_285 rfl ?_)))
  obtain ⟨r287, e1, hf⟩ := Option.bind_eq_some_iff.mp hf
  refine go_virt (pc := 287) (i := 1) (as := [.int v10, .int v11]) (rest := []) (w' := (some q, [(8, t0), (8, t1)])) lk_1_30 pd_23 rfl oid_1 rfl rfl rfl rfl rfl rfl ⟨rfl, rfl, rfl, rfl, rfl⟩ d48_287 (c_k_frameOf v10 v11 t1 _ e1) ?_
  refine go_iconst (pc := 290) d48_290 ci_m1 ?_
  by_cases h2 : r287 = (-1 : Int32)
  · refine go_icY (pc := 291) (pc' := 298) d48_291 (XT.ii_eq_t h2) j_291_7 ?_
    refine go_iconst (pc := 298) d48_298 ci_0 ?_
    exact law_299_ok hk219 v1 v2 v6 v8 v9 p0 (0 : Int32) q t0 t1 x3 x7 (.val (.int v10)) (.val (.int v11)) x13 hx3 hx7 (Or.inr ⟨_, rfl, rfl⟩) (Or.inr ⟨_, rfl, rfl⟩) hx13 _ (by first | simpa only [if_pos h2] using hf | contradiction)
  · refine go_icN (pc := 291) d48_291 (XT.ii_eq_f h2) ?_
    refine go_iconst (pc := 294) d48_294 ci_1 (go_goto (pc := 295) (pc' := 299) d48_295 j_295_4 ?_)
    exact law_299_ok hk219 v1 v2 v6 v8 v9 p0 (1 : Int32) q t0 t1 x3 x7 (.val (.int v10)) (.val (.int v11)) x13 hx3 hx7 (Or.inr ⟨_, rfl, rfl⟩) (Or.inr ⟨_, rfl, rfl⟩) hx13 _ (by first | simpa only [if_neg h2] using hf | contradiction)
set_option maxRecDepth 65536 in
set_option maxHeartbeats 4000000 in
theorem law_219_ok  : ∀ (n : Nat) (v1 : Int32) (v2 : Int32) (v6 : Int32) (v8 : Int32) (v9 : Int32) (q : List Int32) (t0 : S) (t1 : S) (x3 : Slot) (x7 : Slot) (x10 : Slot) (x11 : Slot) (x12 : Slot) (x13 : Slot) (hx3 : k1 x3) (hx7 : k1 x7) (hx10 : k1 x10) (hx11 : k1 x11) (hx12 : k1 x12) (hx13 : k1 x13) (o : Int32 × S × S), law_219 n v1 v2 v6 v8 v9 q t0 t1 = some o → Go PP m48 219 [.val (.ref 0), .val (.int v1), .val (.int v2), x3, .val (.ref 1), .val (.ref 10), .val (.int v6), x7, .val (.int v8), .val (.int v9), x10, x11, x12, x13, .unset, .unset, .unset, .unset] [] (some q, [(8, t0), (8, t1)]) (some (.int o.1), (some q, [(8, o.2.1), (8, o.2.2)])) := by
  intro n
  induction n with
  | zero => intro v1 v2 v6 v8 v9 q t0 t1 x3 x7 x10 x11 x12 x13 hx3 hx7 hx10 hx11 hx12 hx13 o hf; exact nomatch hf
  | succ n ih =>
    intro v1 v2 v6 v8 v9 q t0 t1 x3 x7 x10 x11 x12 x13 hx3 hx7 hx10 hx11 hx12 hx13 o hf
    unfold law_219 at hf
    refine go_iload (pc := 219) d48_219 rfl (go_iload (pc := 221) d48_221 rfl ?_)
    by_cases h1 : v9 < v8
    · replace hf := (if_pos h1).symm.trans hf
      refine go_icN (pc := 223) d48_223 (XT.ii_ge_f h1) ?_
      refine go_iload (pc := 226) d48_226 rfl (go_iloadN (pc := 228) d48_228 rfl ?_)
      by_cases e2 : v2 = 0
      · exact nomatch ((if_pos e2).symm.trans hf)
      replace hf := (if_neg e2).symm.trans hf
      refine go_idiv (pc := 229) d48_229 e2 ?_
      refine go_istore (pc := 230) (L' := [.val (.ref 0), .val (.int v1), .val (.int v2), x3, .val (.ref 1), .val (.ref 10), .val (.int v6), x7, .val (.int v8), .val (.int v9), .val (.int (v9 / v2)), x11, x12, x13, .unset, .unset, .unset, .unset]) d48_230 (stx rfl hx10 rfl) (go_iload (pc := 232) d48_232 rfl (go_iloadN (pc := 234) d48_234 rfl ?_))
      by_cases e3 : v2 = 0
      · exact nomatch ((if_pos e3).symm.trans hf)
      replace hf := (if_neg e3).symm.trans hf
      refine go_irem (pc := 235) d48_235 e3 ?_
      refine go_istore (pc := 236) (L' := [.val (.ref 0), .val (.int v1), .val (.int v2), x3, .val (.ref 1), .val (.ref 10), .val (.int v6), x7, .val (.int v8), .val (.int v9), .val (.int (v9 / v2)), .val (.int (v9 % v2)), x12, x13, .unset, .unset, .unset, .unset]) d48_236 (stx rfl hx11 rfl) (go_aload (pc := 238) d48_238 rfl (go_iload (pc := 240) d48_240 rfl (go_iload (pc := 242) d48_242 rfl ?_)))
      obtain ⟨r244, e4, hf⟩ := Option.bind_eq_some_iff.mp hf
      refine go_virt (pc := 244) (i := 0) (as := [.int (v9 / v2), .int (v9 % v2)]) (rest := []) (w' := (some q, [(8, t0), (8, t1)])) lk_1_65 pd_44 rfl oid_0 rfl rfl rfl rfl rfl rfl ⟨rfl, rfl, rfl, rfl, rfl⟩ d48_244 (c_k_read (v9 / v2) (v9 % v2) t0 _ e4) ?_
      refine go_aload (pc := 247) d48_247 rfl (go_iload (pc := 249) d48_249 rfl (go_iload (pc := 251) d48_251 rfl ?_))
      obtain ⟨r253, e5, hf⟩ := Option.bind_eq_some_iff.mp hf
      refine go_virt (pc := 253) (i := 1) (as := [.int (v9 / v2), .int (v9 % v2)]) (rest := [.int r244]) (w' := (some q, [(8, t0), (8, t1)])) lk_1_65 pd_44 rfl oid_1 rfl rfl rfl rfl rfl rfl ⟨rfl, rfl, rfl, rfl, rfl⟩ d48_253 (c_k_read (v9 / v2) (v9 % v2) t1 _ e5) ?_
      by_cases h6 : r244 = r253
      · replace hf := (if_pos h6).symm.trans hf
        refine go_icY (pc := 256) (pc' := 261) d48_256 (XT.ii_eq_t h6) j_256_5 ?_
        refine go_aload (pc := 261) d48_261 rfl (go_iload (pc := 263) d48_263 rfl (go_iload (pc := 265) d48_265 rfl ?_))
        obtain ⟨r267, e7, hf⟩ := Option.bind_eq_some_iff.mp hf
        refine go_virt (pc := 267) (i := 0) (as := [.int (v9 / v2), .int (v9 % v2)]) (rest := []) (w' := (some q, [(8, t0), (8, t1)])) lk_1_30 pd_23 rfl oid_0 rfl rfl rfl rfl rfl rfl ⟨rfl, rfl, rfl, rfl, rfl⟩ d48_267 (c_k_frameOf (v9 / v2) (v9 % v2) t0 _ e7) ?_
        refine go_iconst (pc := 270) d48_270 ci_m1 ?_
        by_cases h8 : r267 = (-1 : Int32)
        · refine go_icY (pc := 271) (pc' := 278) d48_271 (XT.ii_eq_t h8) j_271_7 ?_
          refine go_iconst (pc := 278) d48_278 ci_0 ?_
          exact law_279_ok ih v1 v2 v6 v8 v9 (v9 / v2) (v9 % v2) (0 : Int32) q t0 t1 x3 x7 x12 x13 hx3 hx7 hx12 hx13 _ (by first | simpa only [if_pos h8] using hf | contradiction)
        · refine go_icN (pc := 271) d48_271 (XT.ii_eq_f h8) ?_
          refine go_iconst (pc := 274) d48_274 ci_1 (go_goto (pc := 275) (pc' := 279) d48_275 j_275_4 ?_)
          exact law_279_ok ih v1 v2 v6 v8 v9 (v9 / v2) (v9 % v2) (1 : Int32) q t0 t1 x3 x7 x12 x13 hx3 hx7 hx12 hx13 _ (by first | simpa only [if_neg h8] using hf | contradiction)
      · replace hf := (if_neg h6).symm.trans hf
        refine go_icN (pc := 256) d48_256 (XT.ii_eq_f h6) ?_
        refine go_iconst (pc := 259) d48_259 ci_0 ?_
        cases hf
        exact go_zret (pc := 260) rfl d48_260 (show (0 : Int32) = nar .boolean (0 : Int32) by decide)
    · replace hf := (if_neg h1).symm.trans hf
      refine go_icY (pc := 223) (pc' := 316) d48_223 (XT.ii_ge_t h1) j_223_93 ?_
      exact law_316_ok v1 v2 v6 v8 q t0 t1 x3 x7 (.val (.int v9)) x10 x11 x12 x13 hx3 hx7 (Or.inr ⟨_, rfl, rfl⟩) hx10 hx11 hx12 hx13 _ hf
set_option maxRecDepth 65536 in
set_option maxHeartbeats 4000000 in
theorem law_180_ok  : ∀ (v1 : Int32) (v2 : Int32) (v6 : Int32) (p0 : Int32) (q : List Int32) (t0 : S) (t1 : S) (x3 : Slot) (x7 : Slot) (x8 : Slot) (x9 : Slot) (x10 : Slot) (hx3 : k1 x3) (hx7 : k1 x7) (hx8 : k1 x8) (hx9 : k1 x9) (hx10 : k1 x10) (o : Int32 × S × S), law_180 v1 v2 v6 p0 q t0 t1 = some o → Go PP m48 180 [.val (.ref 0), .val (.int v1), .val (.int v2), x3, .val (.ref 1), .val (.ref 10), .val (.int v6), x7, x8, x9, x10, .unset, .unset, .unset, .unset, .unset, .unset, .unset] [.int p0] (some q, [(8, t0), (8, t1)]) (some (.int o.1), (some q, [(8, o.2.1), (8, o.2.2)])) := by
  intro v1 v2 v6 p0 q t0 t1 x3 x7 x8 x9 x10 hx3 hx7 hx8 hx9 hx10 o hf
  unfold law_180 at hf
  refine go_istore (pc := 180) (L' := [.val (.ref 0), .val (.int v1), .val (.int v2), x3, .val (.ref 1), .val (.ref 10), .val (.int v6), .val (.int p0), x8, x9, x10, .unset, .unset, .unset, .unset, .unset, .unset, .unset]) d48_180 (stx rfl hx7 rfl) (go_iload (pc := 182) d48_182 rfl ?_)
  by_cases h1 : v6 < 0
  · replace hf := (if_pos h1).symm.trans hf
    refine go_ifY (pc := 184) (pc' := 194) d48_184 (XT.i0_lt_t h1) j_184_10 ?_
    refine go_iconst (pc := 194) d48_194 ci_0 ?_
    cases hf
    exact go_zret (pc := 195) rfl d48_195 (show (0 : Int32) = nar .boolean (0 : Int32) by decide)
  · replace hf := (if_neg h1).symm.trans hf
    refine go_ifN (pc := 184) d48_184 (XT.i0_lt_f h1) ?_
    refine go_iload (pc := 187) d48_187 rfl (go_iload (pc := 189) d48_189 rfl ?_)
    by_cases h2 : p0 < v6
    · replace hf := (if_pos h2).symm.trans hf
      refine go_icN (pc := 191) d48_191 (XT.ii_le_f h2) ?_
      refine go_iconst (pc := 194) d48_194 ci_0 ?_
      cases hf
      exact go_zret (pc := 195) rfl d48_195 (show (0 : Int32) = nar .boolean (0 : Int32) by decide)
    · replace hf := (if_neg h2).symm.trans hf
      refine go_icY (pc := 191) (pc' := 196) d48_191 (XT.ii_le_t h2) j_191_5 ?_
      refine go_aload (pc := 196) d48_196 rfl ?_
      refine go_virt (pc := 198) (i := 0) (as := []) (rest := []) (w' := (some q, [(8, t0), (8, t1)])) lk_1_61 pd_43 rfl oid_0 rfl rfl rfl rfl rfl rfl ⟨rfl, rfl, rfl, rfl, rfl⟩ d48_198 (c_k_freeCount t0) ?_
      refine go_aload (pc := 201) d48_201 rfl ?_
      refine go_virt (pc := 203) (i := 1) (as := []) (rest := [.int (k_freeCount t0)]) (w' := (some q, [(8, t0), (8, t1)])) lk_1_61 pd_43 rfl oid_1 rfl rfl rfl rfl rfl rfl ⟨rfl, rfl, rfl, rfl, rfl⟩ d48_203 (c_k_freeCount t1) ?_
      by_cases h3 : (k_freeCount t0) = (k_freeCount t1)
      · replace hf := (if_pos h3).symm.trans hf
        refine go_icY (pc := 206) (pc' := 211) d48_206 (XT.ii_eq_t h3) j_206_5 ?_
        refine go_iconst (pc := 211) d48_211 ci_4 (go_iloadN (pc := 212) d48_212 rfl (go_imul (pc := 213) d48_213 (go_istore (pc := 214) (L' := [.val (.ref 0), .val (.int v1), .val (.int v2), x3, .val (.ref 1), .val (.ref 10), .val (.int v6), .val (.int p0), .val (.int ((4 : Int32) * v2)), x9, x10, .unset, .unset, .unset, .unset, .unset, .unset, .unset]) d48_214 (stx rfl hx8 rfl) (go_iconst (pc := 216) d48_216 ci_0 (go_istore (pc := 217) (L' := [.val (.ref 0), .val (.int v1), .val (.int v2), x3, .val (.ref 1), .val (.ref 10), .val (.int v6), .val (.int p0), .val (.int ((4 : Int32) * v2)), .val (.int (0 : Int32)), x10, .unset, .unset, .unset, .unset, .unset, .unset, .unset]) d48_217 (stx rfl hx9 rfl) ?_)))))
        exact law_219_ok BIG v1 v2 v6 ((4 : Int32) * v2) (0 : Int32) q t0 t1 x3 (.val (.int p0)) x10 .unset .unset .unset hx3 (Or.inr ⟨_, rfl, rfl⟩) hx10 (Or.inl rfl) (Or.inl rfl) (Or.inl rfl) _ hf
      · replace hf := (if_neg h3).symm.trans hf
        refine go_icN (pc := 206) d48_206 (XT.ii_eq_f h3) ?_
        refine go_iconst (pc := 209) d48_209 ci_0 ?_
        cases hf
        exact go_zret (pc := 210) rfl d48_210 (show (0 : Int32) = nar .boolean (0 : Int32) by decide)
set_option maxRecDepth 65536 in
set_option maxHeartbeats 4000000 in
theorem law_152_ok  : ∀ (v1 : Int32) (v2 : Int32) (v3 : Int32) (q : List Int32) (t0 : S) (t1 : S) (x6 : Slot) (x7 : Slot) (x8 : Slot) (x9 : Slot) (x10 : Slot) (hx6 : k1 x6) (hx7 : k1 x7) (hx8 : k1 x8) (hx9 : k1 x9) (hx10 : k1 x10) (o : Int32 × S × S), law_152 v1 v2 v3 q t0 t1 = some o → Go PP m48 152 [.val (.ref 0), .val (.int v1), .val (.int v2), .val (.int v3), .val (.ref 1), .val (.ref 10), x6, x7, x8, x9, x10, .unset, .unset, .unset, .unset, .unset, .unset, .unset] [] (some q, [(8, t0), (8, t1)]) (some (.int o.1), (some q, [(8, o.2.1), (8, o.2.2)])) := by
  intro v1 v2 v3 q t0 t1 x6 x7 x8 x9 x10 hx6 hx7 hx8 hx9 hx10 o hf
  unfold law_152 at hf
  refine go_aload (pc := 152) d48_152 rfl (go_iloadN (pc := 154) d48_154 rfl ?_)
  obtain ⟨r155, e1, hf⟩ := Option.bind_eq_some_iff.mp hf
  refine go_virt (pc := 155) (i := 0) (as := [.int v3]) (rest := []) (w' := (some q, [(8, r155.2), (8, t1)])) lk_1_47 pd_40 rfl oid_0 rfl rfl rfl rfl rfl rfl ⟨rfl, rfl, rfl, rfl, rfl⟩ d48_155 (c_k_compact v3 t0 _ e1) ?_
  refine go_istore (pc := 158) (L' := [.val (.ref 0), .val (.int v1), .val (.int v2), .val (.int v3), .val (.ref 1), .val (.ref 10), .val (.int r155.1), x7, x8, x9, x10, .unset, .unset, .unset, .unset, .unset, .unset, .unset]) d48_158 (stx rfl hx6 rfl) (go_iloadN (pc := 160) d48_160 rfl ?_)
  by_cases h2 : v3 < 0
  · refine go_ifN (pc := 161) d48_161 (XT.i0_ge_f h2) ?_
    refine go_iconst (pc := 164) d48_164 ci_0 (go_goto (pc := 165) (pc' := 180) d48_165 j_165_15 ?_)
    exact law_180_ok v1 v2 r155.1 (0 : Int32) q r155.2 t1 (.val (.int v3)) x7 x8 x9 x10 (Or.inr ⟨_, rfl, rfl⟩) hx7 hx8 hx9 hx10 _ (by first | simpa only [if_pos h2] using hf | contradiction)
  · refine go_ifY (pc := 161) (pc' := 168) d48_161 (XT.i0_ge_t h2) j_161_7 ?_
    refine go_iloadN (pc := 168) d48_168 rfl (go_bipush (pc := 169) d48_169 cb_64 ?_)
    by_cases h3 : (64 : Int32) < v3
    · refine go_icN (pc := 171) d48_171 (XT.ii_le_f h3) ?_
      refine go_bipush (pc := 174) d48_174 cb_64 (go_goto (pc := 176) (pc' := 180) d48_176 j_176_4 ?_)
      exact law_180_ok v1 v2 r155.1 (64 : Int32) q r155.2 t1 (.val (.int v3)) x7 x8 x9 x10 (Or.inr ⟨_, rfl, rfl⟩) hx7 hx8 hx9 hx10 _ (by first | simpa only [if_neg h2, if_pos h3] using hf | contradiction)
    · refine go_icY (pc := 171) (pc' := 179) d48_171 (XT.ii_le_t h3) j_171_8 ?_
      refine go_iloadN (pc := 179) d48_179 rfl ?_
      exact law_180_ok v1 v2 r155.1 v3 q r155.2 t1 (.val (.int v3)) x7 x8 x9 x10 (Or.inr ⟨_, rfl, rfl⟩) hx7 hx8 hx9 hx10 _ (by first | simpa only [if_neg h2, if_neg h3] using hf | contradiction)
set_option maxRecDepth 65536 in
set_option maxHeartbeats 4000000 in
theorem law_66_ok  : ∀ (n : Nat) (v1 : Int32) (v2 : Int32) (v3 : Int32) (v6 : Int32) (q : List Int32) (t0 : S) (t1 : S) (x7 : Slot) (x8 : Slot) (x9 : Slot) (x10 : Slot) (hx7 : k1 x7) (hx8 : k1 x8) (hx9 : k1 x9) (hx10 : k1 x10) (o : Int32 × S × S), law_66 n v1 v2 v3 v6 q t0 t1 = some o → Go PP m48 66 [.val (.ref 0), .val (.int v1), .val (.int v2), .val (.int v3), .val (.ref 1), .val (.ref 10), .val (.int v6), x7, x8, x9, x10, .unset, .unset, .unset, .unset, .unset, .unset, .unset] [] (some q, [(8, t0), (8, t1)]) (some (.int o.1), (some q, [(8, o.2.1), (8, o.2.2)])) := by
  intro n
  induction n with
  | zero => intro v1 v2 v3 v6 q t0 t1 x7 x8 x9 x10 hx7 hx8 hx9 hx10 o hf; exact nomatch hf
  | succ n ih =>
    intro v1 v2 v3 v6 q t0 t1 x7 x8 x9 x10 hx7 hx8 hx9 hx10 o hf
    unfold law_66 at hf
    refine go_iload (pc := 66) d48_66 rfl (go_aloadN (pc := 68) d48_68 rfl (go_slen (pc := 69) d48_69 ?_))
    by_cases h1 : v6 < q.length.toInt32
    · replace hf := (if_pos h1).symm.trans hf
      refine go_icN (pc := 70) d48_70 (XT.ii_ge_f h1) ?_
      refine go_aloadN (pc := 73) d48_73 rfl (go_iload (pc := 74) d48_74 rfl ?_)
      obtain ⟨r76, e2, hf⟩ := Option.bind_eq_some_iff.mp hf
      refine go_stat (pc := 76) (as := [.ref 0, .int v6]) (rest := []) (w' := (some q, [(8, t0), (8, t1)])) lk_1_50 pd_0 rfl rfl ⟨Nat.le_of_ble_eq_true rfl, Nat.le_of_ble_eq_true rfl⟩ ⟨rfl, rfl, rfl⟩ ⟨rfl, rfl, rfl, rfl, rfl⟩ d48_76 (c_h_cell_n2 v6 q t0 t1 _ e2) ?_
      refine go_bipush (pc := 79) d48_79 cb_8 ?_
      obtain ⟨r81, e3, hf⟩ := Option.bind_eq_some_iff.mp hf
      refine go_stat (pc := 81) (as := [.int r76, .int (8 : Int32)]) (rest := []) (w' := (some q, [(8, t0), (8, t1)])) lk_1_7 pd_1 rfl rfl ⟨Nat.le_of_ble_eq_true rfl, Nat.le_of_ble_eq_true rfl⟩ ⟨rfl, rfl, rfl⟩ ⟨rfl, rfl, rfl, rfl, rfl⟩ d48_81 (c_h_mod_n2 r76 (8 : Int32) q t0 t1 _ e3) ?_
      refine go_istore (pc := 84) (L' := [.val (.ref 0), .val (.int v1), .val (.int v2), .val (.int v3), .val (.ref 1), .val (.ref 10), .val (.int v6), .val (.int r81), x8, x9, x10, .unset, .unset, .unset, .unset, .unset, .unset, .unset]) d48_84 (stx rfl hx7 rfl) (go_aloadN (pc := 86) d48_86 rfl (go_iload (pc := 87) d48_87 rfl (go_iconst (pc := 89) d48_89 ci_1 (go_iadd (pc := 90) d48_90 ?_))))
      obtain ⟨r91, e4, hf⟩ := Option.bind_eq_some_iff.mp hf
      refine go_stat (pc := 91) (as := [.ref 0, .int (v6 + (1 : Int32))]) (rest := []) (w' := (some q, [(8, t0), (8, t1)])) lk_1_50 pd_0 rfl rfl ⟨Nat.le_of_ble_eq_true rfl, Nat.le_of_ble_eq_true rfl⟩ ⟨rfl, rfl, rfl⟩ ⟨rfl, rfl, rfl, rfl, rfl⟩ d48_91 (c_h_cell_n2 (v6 + (1 : Int32)) q t0 t1 _ e4) ?_
      refine go_istore (pc := 94) (L' := [.val (.ref 0), .val (.int v1), .val (.int v2), .val (.int v3), .val (.ref 1), .val (.ref 10), .val (.int v6), .val (.int r81), .val (.int r91), x9, x10, .unset, .unset, .unset, .unset, .unset, .unset, .unset]) d48_94 (stx rfl hx8 rfl) (go_aloadN (pc := 96) d48_96 rfl (go_iload (pc := 97) d48_97 rfl (go_iconst (pc := 99) d48_99 ci_2 (go_iadd (pc := 100) d48_100 ?_))))
      obtain ⟨r101, e5, hf⟩ := Option.bind_eq_some_iff.mp hf
      refine go_stat (pc := 101) (as := [.ref 0, .int (v6 + (2 : Int32))]) (rest := []) (w' := (some q, [(8, t0), (8, t1)])) lk_1_50 pd_0 rfl rfl ⟨Nat.le_of_ble_eq_true rfl, Nat.le_of_ble_eq_true rfl⟩ ⟨rfl, rfl, rfl⟩ ⟨rfl, rfl, rfl, rfl, rfl⟩ d48_101 (c_h_cell_n2 (v6 + (2 : Int32)) q t0 t1 _ e5) ?_
      refine go_istore (pc := 104) (L' := [.val (.ref 0), .val (.int v1), .val (.int v2), .val (.int v3), .val (.ref 1), .val (.ref 10), .val (.int v6), .val (.int r81), .val (.int r91), .val (.int r101), x10, .unset, .unset, .unset, .unset, .unset, .unset, .unset]) d48_104 (stx rfl hx9 rfl) (go_aloadN (pc := 106) d48_106 rfl (go_iload (pc := 107) d48_107 rfl (go_iconst (pc := 109) d48_109 ci_3 (go_iadd (pc := 110) d48_110 ?_))))
      obtain ⟨r111, e6, hf⟩ := Option.bind_eq_some_iff.mp hf
      refine go_stat (pc := 111) (as := [.ref 0, .int (v6 + (3 : Int32))]) (rest := []) (w' := (some q, [(8, t0), (8, t1)])) lk_1_50 pd_0 rfl rfl ⟨Nat.le_of_ble_eq_true rfl, Nat.le_of_ble_eq_true rfl⟩ ⟨rfl, rfl, rfl⟩ ⟨rfl, rfl, rfl, rfl, rfl⟩ d48_111 (c_h_cell_n2 (v6 + (3 : Int32)) q t0 t1 _ e6) ?_
      refine go_istore (pc := 114) (L' := [.val (.ref 0), .val (.int v1), .val (.int v2), .val (.int v3), .val (.ref 1), .val (.ref 10), .val (.int v6), .val (.int r81), .val (.int r91), .val (.int r101), .val (.int r111), .unset, .unset, .unset, .unset, .unset, .unset, .unset]) d48_114 (stx rfl hx10 rfl) (go_aload (pc := 116) d48_116 rfl (go_iload (pc := 118) d48_118 rfl (go_iload (pc := 120) d48_120 rfl (go_iload (pc := 122) d48_122 rfl (go_iload (pc := 124) d48_124 rfl (go_iloadN (pc := 126) d48_126 rfl (go_iloadN (pc := 127) d48_127 rfl ?_)))))))
      obtain ⟨r128, e7, hf⟩ := Option.bind_eq_some_iff.mp hf
      refine go_stat (pc := 128) (as := [.ref 1, .int r81, .int r91, .int r101, .int r111, .int v2, .int v1]) (rest := []) (w' := (some q, [(8, r128), (8, t1)])) lk_1_57 pd_41 rfl rfl ⟨Nat.le_of_ble_eq_true rfl, Nat.le_of_ble_eq_true rfl⟩ ⟨rfl, rfl, rfl⟩ ⟨rfl, rfl, rfl, rfl, rfl⟩ d48_128 (c_h_apply_0_n2 r81 r91 r101 r111 v2 v1 t0 q t1 _ e7) ?_
      refine go_aload (pc := 131) d48_131 rfl (go_iload (pc := 133) d48_133 rfl (go_iload (pc := 135) d48_135 rfl (go_iload (pc := 137) d48_137 rfl (go_iload (pc := 139) d48_139 rfl (go_iloadN (pc := 141) d48_141 rfl (go_iloadN (pc := 142) d48_142 rfl ?_))))))
      obtain ⟨r143, e8, hf⟩ := Option.bind_eq_some_iff.mp hf
      refine go_stat (pc := 143) (as := [.ref 10, .int r81, .int r91, .int r101, .int r111, .int v2, .int v1]) (rest := []) (w' := (some q, [(8, r128), (8, r143)])) lk_1_57 pd_41 rfl rfl ⟨Nat.le_of_ble_eq_true rfl, Nat.le_of_ble_eq_true rfl⟩ ⟨rfl, rfl, rfl⟩ ⟨rfl, rfl, rfl, rfl, rfl⟩ d48_143 (c_h_apply_1_n2 r81 r91 r101 r111 v2 v1 t1 q r128 _ e8) ?_
      refine go_iinc (pc := 146) (L' := [.val (.ref 0), .val (.int v1), .val (.int v2), .val (.int v3), .val (.ref 1), .val (.ref 10), .val (.int (v6 + (4 : Int32))), .val (.int r81), .val (.int r91), .val (.int r101), .val (.int r111), .unset, .unset, .unset, .unset, .unset, .unset, .unset]) d48_146 rfl ci_4 rfl (go_goto (pc := 149) (pc' := 66) d48_149 j_149_m83 ?_)
      exact ih v1 v2 v3 (v6 + (4 : Int32)) q r128 r143 (.val (.int r81)) (.val (.int r91)) (.val (.int r101)) (.val (.int r111)) (Or.inr ⟨_, rfl, rfl⟩) (Or.inr ⟨_, rfl, rfl⟩) (Or.inr ⟨_, rfl, rfl⟩) (Or.inr ⟨_, rfl, rfl⟩) _ hf
    · replace hf := (if_neg h1).symm.trans hf
      refine go_icY (pc := 70) (pc' := 152) d48_70 (XT.ii_ge_t h1) j_70_82 ?_
      exact law_152_ok v1 v2 v3 q t0 t1 (.val (.int v6)) x7 x8 x9 x10 (Or.inr ⟨_, rfl, rfl⟩) hx7 hx8 hx9 hx10 _ hf
set_option maxRecDepth 65536 in
set_option maxHeartbeats 4000000 in
theorem law_ok  : ∀  (q : List Int32)  (o : Int32 × S × S), law q = some o → Go PP m48 0 [.val (.ref 0), .unset, .unset, .unset, .unset, .unset, .unset, .unset, .unset, .unset, .unset, .unset, .unset, .unset, .unset, .unset, .unset, .unset] [] (some q, []) (some (.int o.1), (some q, [(8, o.2.1), (8, o.2.2)])) := by
  intro q o hf
  unfold law at hf
  refine go_bipush (pc := 0) d48_0 cb_8 (go_aloadN (pc := 2) d48_2 rfl (go_iconst (pc := 3) d48_3 ci_0 ?_))
  obtain ⟨r4, e1, hf⟩ := Option.bind_eq_some_iff.mp hf
  refine go_stat (pc := 4) (as := [.ref 0, .int (0 : Int32)]) (rest := [.int (8 : Int32)]) (w' := (some q, [])) lk_1_50 pd_0 rfl rfl ⟨Nat.le_of_ble_eq_true rfl, Nat.le_of_ble_eq_true rfl⟩ ⟨rfl, rfl, rfl⟩ ⟨rfl, rfl, rfl, rfl, rfl⟩ d48_4 (c_h_cell_n0 (0 : Int32) q _ e1) ?_
  refine go_bipush (pc := 7) d48_7 cb_57 ?_
  obtain ⟨r9, e2, hf⟩ := Option.bind_eq_some_iff.mp hf
  refine go_stat (pc := 9) (as := [.int r4, .int (57 : Int32)]) (rest := [.int (8 : Int32)]) (w' := (some q, [])) lk_1_7 pd_1 rfl rfl ⟨Nat.le_of_ble_eq_true rfl, Nat.le_of_ble_eq_true rfl⟩ ⟨rfl, rfl, rfl⟩ ⟨rfl, rfl, rfl, rfl, rfl⟩ d48_9 (c_h_mod_n0 r4 (57 : Int32) q _ e2) ?_
  refine go_iadd (pc := 12) d48_12 (go_istoreN (pc := 13) (L' := [.val (.ref 0), .val (.int ((8 : Int32) + r9)), .unset, .unset, .unset, .unset, .unset, .unset, .unset, .unset, .unset, .unset, .unset, .unset, .unset, .unset, .unset, .unset]) d48_13 rfl (go_iconst (pc := 14) d48_14 ci_4 (go_aloadN (pc := 15) d48_15 rfl (go_iconst (pc := 16) d48_16 ci_1 ?_))))
  obtain ⟨r17, e3, hf⟩ := Option.bind_eq_some_iff.mp hf
  refine go_stat (pc := 17) (as := [.ref 0, .int (1 : Int32)]) (rest := [.int (4 : Int32)]) (w' := (some q, [])) lk_1_50 pd_0 rfl rfl ⟨Nat.le_of_ble_eq_true rfl, Nat.le_of_ble_eq_true rfl⟩ ⟨rfl, rfl, rfl⟩ ⟨rfl, rfl, rfl, rfl, rfl⟩ d48_17 (c_h_cell_n0 (1 : Int32) q _ e3) ?_
  refine go_bipush (pc := 20) d48_20 cb_13 ?_
  obtain ⟨r22, e4, hf⟩ := Option.bind_eq_some_iff.mp hf
  refine go_stat (pc := 22) (as := [.int r17, .int (13 : Int32)]) (rest := [.int (4 : Int32)]) (w' := (some q, [])) lk_1_7 pd_1 rfl rfl ⟨Nat.le_of_ble_eq_true rfl, Nat.le_of_ble_eq_true rfl⟩ ⟨rfl, rfl, rfl⟩ ⟨rfl, rfl, rfl, rfl, rfl⟩ d48_22 (c_h_mod_n0 r17 (13 : Int32) q _ e4) ?_
  refine go_iadd (pc := 25) d48_25 (go_istoreN (pc := 26) (L' := [.val (.ref 0), .val (.int ((8 : Int32) + r9)), .val (.int ((4 : Int32) + r22)), .unset, .unset, .unset, .unset, .unset, .unset, .unset, .unset, .unset, .unset, .unset, .unset, .unset, .unset, .unset]) d48_26 rfl (go_aloadN (pc := 27) d48_27 rfl (go_iconst (pc := 28) d48_28 ci_2 ?_)))
  obtain ⟨r29, e5, hf⟩ := Option.bind_eq_some_iff.mp hf
  refine go_stat (pc := 29) (as := [.ref 0, .int (2 : Int32)]) (rest := []) (w' := (some q, [])) lk_1_50 pd_0 rfl rfl ⟨Nat.le_of_ble_eq_true rfl, Nat.le_of_ble_eq_true rfl⟩ ⟨rfl, rfl, rfl⟩ ⟨rfl, rfl, rfl, rfl, rfl⟩ d48_29 (c_h_cell_n0 (2 : Int32) q _ e5) ?_
  refine go_bipush (pc := 32) d48_32 cb_80 ?_
  obtain ⟨r34, e6, hf⟩ := Option.bind_eq_some_iff.mp hf
  refine go_stat (pc := 34) (as := [.int r29, .int (80 : Int32)]) (rest := []) (w' := (some q, [])) lk_1_7 pd_1 rfl rfl ⟨Nat.le_of_ble_eq_true rfl, Nat.le_of_ble_eq_true rfl⟩ ⟨rfl, rfl, rfl⟩ ⟨rfl, rfl, rfl, rfl, rfl⟩ d48_34 (c_h_mod_n0 r29 (80 : Int32) q _ e6) ?_
  refine go_bipush (pc := 37) d48_37 cb_8 (go_isub (pc := 39) d48_39 (go_istoreN (pc := 40) (L' := [.val (.ref 0), .val (.int ((8 : Int32) + r9)), .val (.int ((4 : Int32) + r22)), .val (.int (r34 - (8 : Int32))), .unset, .unset, .unset, .unset, .unset, .unset, .unset, .unset, .unset, .unset, .unset, .unset, .unset, .unset]) d48_40 rfl ?_))
  refine go_new (pc := 41) (n := 0) (w' := (some q, [(0, s0)])) (List.mem_of_getElem? (i := 7) rfl) rfl rfl rfl rfl rfl rfl rfl d48_41 oid_0 ?_
  refine go_dupR (pc := 44) d48_44 (go_iloadN (pc := 45) d48_45 rfl (go_iloadN (pc := 46) d48_46 rfl ?_))
  obtain ⟨r47, e8, hf⟩ := Option.bind_eq_some_iff.mp hf
  refine go_init (pc := 47) (i := 0) (as := [.int ((8 : Int32) + r9), .int ((4 : Int32) + r22)]) (rest := [.ref 1]) (w' := (some q, [(8, r47)])) lk_1_54 pd_5 rfl oid_0 rfl rfl rfl rfl rfl rfl rfl rfl rfl ⟨rfl, rfl, rfl⟩ ⟨rfl, rfl⟩ d48_47 (c_k_init ((8 : Int32) + r9) ((4 : Int32) + r22) _ e8) ?_
  refine go_astore (pc := 50) (L' := [.val (.ref 0), .val (.int ((8 : Int32) + r9)), .val (.int ((4 : Int32) + r22)), .val (.int (r34 - (8 : Int32))), .val (.ref 1), .unset, .unset, .unset, .unset, .unset, .unset, .unset, .unset, .unset, .unset, .unset, .unset, .unset]) d48_50 rfl ?_
  refine go_new (pc := 52) (n := 1) (w' := (some q, [(8, r47), (0, s0)])) (List.mem_of_getElem? (i := 7) rfl) rfl rfl rfl rfl rfl rfl rfl d48_52 oid_1 ?_
  refine go_dupR (pc := 55) d48_55 (go_iloadN (pc := 56) d48_56 rfl (go_iloadN (pc := 57) d48_57 rfl ?_))
  obtain ⟨r58, e10, hf⟩ := Option.bind_eq_some_iff.mp hf
  refine go_init (pc := 58) (i := 1) (as := [.int ((8 : Int32) + r9), .int ((4 : Int32) + r22)]) (rest := [.ref 10]) (w' := (some q, [(8, r47), (8, r58)])) lk_1_54 pd_5 rfl oid_1 rfl rfl rfl rfl rfl rfl rfl rfl rfl ⟨rfl, rfl, rfl⟩ ⟨rfl, rfl⟩ d48_58 (c_k_init ((8 : Int32) + r9) ((4 : Int32) + r22) _ e10) ?_
  refine go_astore (pc := 61) (L' := [.val (.ref 0), .val (.int ((8 : Int32) + r9)), .val (.int ((4 : Int32) + r22)), .val (.int (r34 - (8 : Int32))), .val (.ref 1), .val (.ref 10), .unset, .unset, .unset, .unset, .unset, .unset, .unset, .unset, .unset, .unset, .unset, .unset]) d48_61 rfl (go_iconst (pc := 63) d48_63 ci_3 (go_istore (pc := 64) (L' := [.val (.ref 0), .val (.int ((8 : Int32) + r9)), .val (.int ((4 : Int32) + r22)), .val (.int (r34 - (8 : Int32))), .val (.ref 1), .val (.ref 10), .val (.int (3 : Int32)), .unset, .unset, .unset, .unset, .unset, .unset, .unset, .unset, .unset, .unset, .unset]) d48_64 rfl ?_))
  exact law_66_ok BIG ((8 : Int32) + r9) ((4 : Int32) + r22) (r34 - (8 : Int32)) (3 : Int32) q r47 r58 .unset .unset .unset .unset (Or.inl rfl) (Or.inl rfl) (Or.inl rfl) (Or.inl rfl) _ hf
def bl (w : Int64) (y : Nat) : Bool := w.toBitVec.getLsbD y
theorem l_smod : ∀ j : Fin 64, (Int64.ofNat j.val).toBitVec.smod 64#64 = BitVec.ofNat 64 j.val := by decide
theorem l_and63 : ∀ j : Fin 64, (Int64.ofNat j.val &&& 63) = Int64.ofNat j.val := by decide
theorem bl_shl (w : Int64) {k : Nat} (hk : k < 64) (y : Nat) : bl (w <<< (Int64.ofNat k &&& 63)) y = (decide (k ≤ y) && decide (y < 64) && bl w (y - k)) := by
  rw [l_and63 ⟨k, hk⟩]
  have hs : (w <<< Int64.ofNat k).toBitVec = w.toBitVec <<< k := by
    rw [Int64.toBitVec_shiftLeft, show (Int64.ofNat k).toBitVec.smod 64 = BitVec.ofNat 64 k from l_smod ⟨k, hk⟩, BitVec.shiftLeft_eq']
    congr 1
    simp; omega
  unfold bl
  rw [hs, BitVec.getLsbD_shiftLeft]
  by_cases a : k ≤ y
  · by_cases b : y < 64
    · simp [a, b]
    · simp [a, b]
  · simp [a]
theorem bl_or (a b : Int64) (y : Nat) : bl (a ||| b) y = (bl a y || bl b y) := by simp [bl]
theorem bl_and (a b : Int64) (y : Nat) : bl (a &&& b) y = (bl a y && bl b y) := by simp [bl]
theorem bl_zero (y : Nat) : bl 0 y = false := by simp [bl]
theorem bl_ge (w : Int64) {y : Nat} (h : 64 ≤ y) : bl w y = false := by unfold bl; exact BitVec.getLsbD_of_ge _ _ h
theorem bl_m1 {y : Nat} (h : y < 64) : bl (-1) y = true := by
  unfold bl
  rw [show (-1 : Int64).toBitVec = BitVec.allOnes 64 from rfl, BitVec.getLsbD_allOnes]
  simp [h]
theorem bl_andn (a b : Int64) (y : Nat) : bl (a &&& (b ^^^ (-1))) y = (bl a y && !bl b y) := by
  rw [bl_and]
  by_cases h : y < 64
  · have := bl_m1 h
    unfold bl at *
    rw [Int64.toBitVec_xor, BitVec.getLsbD_xor, this]; simp
  · rw [bl_ge a (by omega)]; simp
theorem u63 : ∀ k : Fin 64, ((Int32.ofNat k.val).toInt64.toUInt64 &&& Int64.toUInt64 63).toBitVec = BitVec.ofNat 64 k.val := by decide +kernel
theorem bl_ushr (w : Int64) {k : Nat} (hk : k < 64) (y : Nat) : bl (XT.ushrL w (Int32.ofNat k)) y = bl w (y + k) := by
  have h1 : (XT.ushrL w (Int32.ofNat k)).toBitVec = w.toBitVec >>> k := by
    unfold XT.ushrL
    show (w.toUInt64 >>> ((Int32.ofNat k).toInt64.toUInt64 &&& Int64.toUInt64 63)).toBitVec = _
    rw [UInt64.toBitVec_shiftRight, u63 ⟨k, hk⟩, BitVec.ushiftRight_eq']
    show w.toBitVec >>> (BitVec.ofNat 64 k % 64).toNat = _
    congr 1
    rw [BitVec.toNat_umod, BitVec.toNat_ofNat]
    show k % 2 ^ 64 % 64 = k
    omega
  unfold bl
  rw [h1]
  simp [Nat.add_comm]
theorem bl_one : ∀ y : Fin 64, bl 1 y.val = decide (y.val = 0) := by decide +kernel
theorem bl_ext {a b : Int64} (h : ∀ y, y < 64 → bl a y = bl b y) : a = b := by
  apply Int64.toBitVec_inj.mp
  apply BitVec.eq_of_getLsbD_eq
  intro i hi
  exact h i hi
theorem bl_bit {k : Nat} (hk : k < 64) (y : Nat) : bl ((1 : Int64) <<< (Int64.ofNat k &&& 63)) y = decide (y = k) := by
  rw [bl_shl _ hk]
  by_cases a : k ≤ y
  · by_cases b : y < 64
    · rw [show bl 1 (y - k) = decide (y - k = 0) from bl_one ⟨y - k, by omega⟩, decide_eq_true a, decide_eq_true b, Bool.and_self, Bool.true_and]
      exact decide_eq_decide.mpr (by omega)
    · rw [decide_eq_false b, decide_eq_false (show ¬ y = k by omega)]; simp
  · rw [decide_eq_false a, decide_eq_false (show ¬ y = k by omega)]; simp
def lev (F : Int64) : Nat → Int64
  | 0 => F
  | k + 1 => (lev F k &&& (XT.ushrL (lev F k) ((1 : Int32) <<< ((Int32.ofNat (k + 1) - (1 : Int32)) &&& 31)))) &&& (k_alignMask (Int32.ofNat (k + 1)))
theorem own_reset {N P : Nat} (s : S) (hN : gI s 0 = Int32.ofNat N) (hP : gI s 1 = Int32.ofNat P) (l : ∀ f, f < 7 → (gA s f).length = 64) (l7 : (gB s 7).length = 7) : ∃ t, k_resetAll s = some t ∧ gI t 0 = Int32.ofNat N ∧ gI t 1 = Int32.ofNat P ∧ gL t 2 = k_lowMask (Int32.ofNat N) ∧ gL t 3 = 0 ∧ gL t 4 = 0 ∧ gL t 5 = 0 ∧ gI t 6 = 1 ∧ gA t 0 = rep 64 0 ∧ gA t 1 = rep 64 0 ∧ gA t 2 = rep 64 0 ∧ gA t 3 = rep 64 (-1) ∧ gA t 4 = rep 64 (-1) ∧ gA t 5 = rep 64 (-1) ∧ gA t 6 = rep 64 (-1) ∧ (gB t 7).length = 7 := by
  have nb : nar .byte 0 = 0 := by decide
  obtain ⟨u, e, F, lu, a0, a1, a2, a3, a4, a5, a6⟩ := run_for k_resetAll_2 k_resetAll_63 64 (fun k u => Fx [] [] [0, 1, 2, 3, 4, 5, 6] [] s u ∧ (∀ f, f < 7 → (gA u f).length = 64) ∧ Upto (gA u 0) k 0 ∧ Upto (gA u 1) k 0 ∧ Upto (gA u 2) k 0 ∧ Upto (gA u 3) k (-1) ∧ Upto (gA u 4) k (-1) ∧ Upto (gA u 5) k (-1) ∧ Upto (gA u 6) k (-1)) (by
    intro n k u hk ⟨F, lu, a0, a1, a2, a3, a4, a5, a6⟩
    have h0 := lu 0 (by omega)
    have h1 := lu 1 (by omega)
    have h2 := lu 2 (by omega)
    have h3 := lu 3 (by omega)
    have h4 := lu 4 (by omega)
    have h5 := lu 5 (by omega)
    have h6 := lu 6 (by omega)
    refine ⟨(sA (sA (sA (sA (sA (sA (sA u 0 ((gA u 0).set k 0)) 1 ((gA u 1).set k 0)) 2 ((gA u 2).set k 0)) 3 ((gA u 3).set k (-1))) 4 ((gA u 4).set k (-1))) 5 ((gA u 5).set k (-1))) 6 ((gA u 6).set k (-1))), ?_, ?_⟩
    · rw [k_resetAll_2, if_pos ((lt_lit (by omega)).mpr hk), nb, st_ofNat _ _ (by omega) (by omega), Option.bind_some, st_ofNat _ _ (by omega) (by omega), Option.bind_some, st_ofNat _ _ (by omega) (by omega), Option.bind_some, st_ofNat _ _ (by omega) (by omega), Option.bind_some, st_ofNat _ _ (by omega) (by omega), Option.bind_some, st_ofNat _ _ (by omega) (by omega), Option.bind_some, st_ofNat _ _ (by omega) (by omega), Option.bind_some, ofNat_succ]
    · refine ⟨((((((F.sA (by simp)).sA (by simp)).sA (by simp)).sA (by simp)).sA (by simp)).sA (by simp)).sA (by simp), fun f hf => ?_, ?_, ?_, ?_, ?_, ?_, ?_, ?_⟩
      · have := lu f hf
        simp only [gA_sA]
        split
        · simp [h6]
        split
        · simp [h5]
        split
        · simp [h4]
        split
        · simp [h3]
        split
        · simp [h2]
        split
        · simp [h1]
        split
        · simp [h0]
        · exact this
      · simpa [gA_sA] using a0.set (by omega)
      · simpa [gA_sA] using a1.set (by omega)
      · simpa [gA_sA] using a2.set (by omega)
      · simpa [gA_sA] using a3.set (by omega)
      · simpa [gA_sA] using a4.set (by omega)
      · simpa [gA_sA] using a5.set (by omega)
      · simpa [gA_sA] using a6.set (by omega)) (by
    intro n u _
    rw [k_resetAll_2, if_neg (fun hh => absurd (show 64 < 64 from (lt_lit (by omega)).mp hh) (by omega))]) BIG s (by unfold BIG; omega) ⟨Fx.refl .., l, Upto.zero _ _, Upto.zero _ _, Upto.zero _ _, Upto.zero _ _, Upto.zero _ _, Upto.zero _ _, Upto.zero _ _⟩
  have i0 : gI u 0 = Int32.ofNat N := by rw [F.1 0 (by simp), hN]
  refine ⟨_, e, ?_, ?_, ?_, ?_, ?_, ?_, ?_, ?_, ?_, ?_, ?_, ?_, ?_, ?_, ?_⟩
  all_goals simp [gI_sI, gI_sL, gL_sI, gL_sL, gA_sI, gA_sL, gB_sI, gB_sL, i0]
  · rw [F.1 1 (by simp), hP]
  · exact a0.all (lu 0 (by omega))
  · exact a1.all (lu 1 (by omega))
  · exact a2.all (lu 2 (by omega))
  · exact a3.all (lu 3 (by omega))
  · exact a4.all (lu 4 (by omega))
  · exact a5.all (lu 5 (by omega))
  · exact a6.all (lu 6 (by omega))
  · rw [F.2.2.2 7 (by simp), l7]
theorem own_runs (s : S) (h6 : gI s 6 = 1) (l7 : (gB s 7).length = 7) : ∃ t, k_refreshRuns s = some t ∧ Fx [6] [] [] [7] s t ∧ (∀ k, k < 7 → (gB t 7)[k]? = some (lev (gL s 2) k)) ∧ gI t 6 = 0 ∧ (gB t 7).length = 7 := by
  obtain ⟨c, u, e, F, lu, gu, hc⟩ : ∃ (c : Int64) (u : S), k_refreshRuns_22 BIG (gL s 2) 1 (sB s 7 ((gB s 7).set 0 (gL s 2))) = k_refreshRuns_65 u ∧ Fx [6] [] [] [7] s u ∧ (gB u 7).length = 7 ∧ (∀ j, j ≤ 6 → (gB u 7)[j]? = some (lev (gL s 2) j)) ∧ c = lev (gL s 2) 6 := by
    obtain ⟨⟨c, v, u⟩, e, k, hk, i⟩ := run_loop (fun n (a : Int64 × Int32 × S) => k_refreshRuns_22 n a.1 a.2.1 a.2.2) (fun a => k_refreshRuns_65 a.2.2) (fun m a => ∃ k, k + m = 6 ∧ a.2.1 = Int32.ofNat (k + 1) ∧ a.1 = lev (gL s 2) k ∧ Fx [6] [] [] [7] s a.2.2 ∧ (gB a.2.2 7).length = 7 ∧ ∀ j, j ≤ k → (gB a.2.2 7)[j]? = some (lev (gL s 2) j))
      (by
        rintro n m ⟨c, v, u⟩ ⟨k, h1, h2, h3, F, lu, g⟩
        dsimp only at *
        refine ⟨(lev (gL s 2) (k + 1), Int32.ofNat (k + 2), sB u 7 ((gB u 7).set (k + 1) (lev (gL s 2) (k + 1)))), ?_, k + 1, by omega, rfl, rfl, F.sB (by simp), ?_, ?_⟩
        · show k_refreshRuns_22 (n + 1) _ _ _ = k_refreshRuns_22 n _ _ _
          rw [h2, h3, k_refreshRuns_22, if_neg (fun hh => by rw [show (6 : Int32) = Int32.ofNat 6 from rfl, ofNat_lt (by omega) (by omega)] at hh; omega)]
          rw [show ((lev (gL s 2) k &&& (XT.ushrL (lev (gL s 2) k) ((1 : Int32) <<< ((Int32.ofNat (k + 1) - (1 : Int32)) &&& 31)))) &&& (k_alignMask (Int32.ofNat (k + 1)))) = lev (gL s 2) (k + 1) from rfl, st_ofNat _ _ (by omega) (by omega), Option.bind_some, ofNat_succ]
        · simp [gB_sB, lu]
        · intro j hj
          rw [gB_sB, if_pos rfl]
          by_cases q : j = k + 1
          · subst q; rw [List.getElem?_set_self (by omega)]
          · rw [List.getElem?_set_ne (by omega)]; exact g j (by omega))
      (by
        rintro n ⟨c, v, u⟩ ⟨k, h1, h2, _⟩
        dsimp only at *
        show k_refreshRuns_22 (n + 1) _ _ _ = _
        rw [h2, k_refreshRuns_22, if_pos (by rw [show (6 : Int32) = Int32.ofNat 6 from rfl, ofNat_lt (by omega) (by omega)]; omega)]) 6 BIG (gL s 2, 1, sB s 7 ((gB s 7).set 0 (gL s 2))) (by unfold BIG; omega) ⟨0, by omega, rfl, rfl, (Fx.refl ..).sB (by simp), by simp [gB_sB, l7], fun j hj => by
          have : j = 0 := by omega
          subst this
          rw [gB_sB, if_pos rfl, List.getElem?_set_self (by omega)]; rfl⟩
    obtain ⟨_, h2, F, lu, g⟩ := i
    dsimp only at *
    have : k = 6 := by omega
    subst this
    exact ⟨c, u, e, F, lu, g, h2⟩
  refine ⟨sI u 6 0, ?_, F.sI (by simp), ?_, by rw [gI_sI, if_pos rfl], by rw [gB_sI]; exact lu⟩
  · unfold k_refreshRuns
    rw [h6, if_neg (by decide), show (0 : Int32) = Int32.ofNat 0 from rfl, st_ofNat _ _ (by omega) (by omega), Option.bind_some]
    exact e
  · intro k hk
    rw [gB_sI]; exact gu k (by omega)
/-! words of 64 bits -/
theorem wz {w : Int64} : w = 0 ↔ ∀ y, y < 64 → bl w y = false := by
  constructor
  · intro h y _; rw [h, bl_zero]
  · intro h; exact bl_ext fun y hy => by rw [h y hy, bl_zero]
theorem bitOf_bit {f : Nat} (hf : f < 64) (y : Nat) : bl (k_bitOf (Int32.ofNat f)) y = decide (y = f) := by
  unfold k_bitOf
  have t64 : ∀ k : Fin 64, (Int32.ofNat k.val).toInt64 = Int64.ofNat k.val := by decide
  rw [if_neg (ofNat_nonneg (by omega)), if_neg (by rw [show (63 : Int32) = Int32.ofNat 63 from rfl, ofNat_lt (by omega) (by omega)]; omega), show (Int32.ofNat f).toInt64 = Int64.ofNat f from t64 ⟨f, hf⟩, bl_bit hf]
theorem lowMask_bit : ∀ (k : Fin 65) (y : Fin 64), bl (k_lowMask (Int32.ofNat k.val)) y.val = decide (y.val < k.val) := by decide +kernel
theorem rng_bit {lo hi : Nat} (hlo : lo ≤ 64) (hhi : hi ≤ 64) {y : Nat} (hy : y < 64) : bl (k_rangeMask (Int32.ofNat lo) (Int32.ofNat hi)) y = decide (lo ≤ y ∧ y < hi) := by
  unfold k_rangeMask
  by_cases w : lo < hi
  · rw [if_pos (by rw [ofNat_lt (by omega) (by omega)]; exact w), bl_andn, show bl (k_lowMask (Int32.ofNat hi)) y = _ from lowMask_bit ⟨hi, by omega⟩ ⟨y, hy⟩, show bl (k_lowMask (Int32.ofNat lo)) y = _ from lowMask_bit ⟨lo, by omega⟩ ⟨y, hy⟩]
    dsimp only
    by_cases a : y < hi
    · by_cases b : y < lo
      · rw [decide_eq_true a, decide_eq_true b, decide_eq_false (by omega)]; rfl
      · rw [decide_eq_true a, decide_eq_false b, decide_eq_true (by omega)]; rfl
    · rw [decide_eq_false a, decide_eq_false (show ¬ (lo ≤ y ∧ y < hi) by omega)]; rfl
  · rw [if_neg (by rw [ofNat_lt (by omega) (by omega)]; exact w), bl_zero, decide_eq_false (by omega)]
/-- the search for the lowest bit -/
def Lo (w : Int64) (off : Nat) (v : Int64) (W : Nat) : Prop := (∀ y, bl v y = bl w (y + off)) ∧ (∀ j, j < off → bl w j = false) ∧ ∃ y, y < W ∧ bl v y = true
theorem lo_step {w : Int64} {off h : Nat} {v m : Int64} (hm : ∀ y, y < 64 → bl m y = decide (y < h)) (h64 : h < 64) (L : Lo w off v (2 * h)) : ((v &&& m) = 0 → Lo w (off + h) (XT.ushrL v (Int32.ofNat h)) h) ∧ (¬ (v &&& m) = 0 → Lo w off v h) := by
  obtain ⟨l1, l2, y, hy, ey⟩ := L
  constructor
  · intro z
    have z' : ∀ j, j < h → bl v j = false := fun j hj => by
      have := (wz.mp z) j (by omega)
      rw [bl_and, hm j (by omega), decide_eq_true hj, Bool.and_true] at this
      exact this
    refine ⟨fun x => by rw [bl_ushr v h64, l1]; congr 1; omega, fun j hj => ?_, y - h, ?_, ?_⟩
    · by_cases q : j < off
      · exact l2 j q
      · have := z' (j - off) (by omega)
        rw [l1, show j - off + off = j by omega] at this
        exact this
    · have : ¬ y < h := fun q => by rw [z' y q] at ey; cases ey
      omega
    · have : ¬ y < h := fun q => by rw [z' y q] at ey; cases ey
      rw [bl_ushr v h64, show y - h + h = y by omega]; exact ey
  · intro z
    refine ⟨l1, l2, ?_⟩
    apply Classical.byContradiction
    intro no
    refine z (wz.mpr fun j hj => ?_)
    rw [bl_and, hm j hj]
    by_cases q : j < h
    · cases e : bl v j with
      | false => rfl
      | true => exact absurd ⟨j, q, e⟩ no
    · rw [decide_eq_false q, Bool.and_false]
theorem mk1 : ∀ y : Fin 64, bl 1 y.val = decide (y.val < 1) := by decide +kernel
theorem mk3 : ∀ y : Fin 64, bl 3 y.val = decide (y.val < 2) := by decide +kernel
theorem mk15 : ∀ y : Fin 64, bl 15 y.val = decide (y.val < 4) := by decide +kernel
theorem mk255 : ∀ y : Fin 64, bl 255 y.val = decide (y.val < 8) := by decide +kernel
theorem mk16 : ∀ y : Fin 64, bl 65535 y.val = decide (y.val < 16) := by decide +kernel
theorem mk32 : ∀ y : Fin 64, bl 4294967295 y.val = decide (y.val < 32) := by decide +kernel
theorem low_ok {w : Int64} (hw : ¬ w = 0) : ∃ f, f < 64 ∧ k_lowestBit w = Int32.ofNat f ∧ bl w f = true ∧ ∀ j, j < f → bl w j = false := by
  have fin : ∀ off v, off ≤ 63 → Lo w off v 2 → ∃ f, f ≤ off + 1 ∧ k_lowestBit_116 (Int32.ofNat off) v = Int32.ofNat f ∧ bl w f = true ∧ ∀ j, j < f → bl w j = false := fun off v ho L => by
    obtain ⟨s1, s2⟩ := lo_step (h := 1) (m := 1) (fun y hy => mk1 ⟨y, hy⟩) (by omega) L
    unfold k_lowestBit_116
    by_cases z : v &&& 1 = 0
    · obtain ⟨a, b, y, hy, ey⟩ := s1 z
      have : y = 0 := by omega
      subst this
      rw [a, Nat.zero_add] at ey
      rw [if_pos z, ofNat_succ]
      exact ⟨off + 1, by omega, rfl, ey, b⟩
    · obtain ⟨a, b, y, hy, ey⟩ := s2 z
      have : y = 0 := by omega
      subst this
      rw [a, Nat.zero_add] at ey
      rw [if_neg z]
      exact ⟨off, by omega, rfl, ey, b⟩
  have st2 : ∀ off v, off ≤ 60 → Lo w off v 4 → ∃ f, f ≤ off + 3 ∧ k_lowestBit_96 (Int32.ofNat off) v = Int32.ofNat f ∧ bl w f = true ∧ ∀ j, j < f → bl w j = false := fun off v ho L => by
    obtain ⟨s1, s2⟩ := lo_step (h := 2) (m := 3) (fun y hy => mk3 ⟨y, hy⟩) (by omega) L
    unfold k_lowestBit_96
    by_cases z : v &&& 3 = 0
    · rw [if_pos z, if_pos z, show Int32.ofNat off + 2 = Int32.ofNat (off + 2) from ofNat_add' off 2]
      obtain ⟨f, a, b⟩ := fin (off + 2) _ (by omega) (s1 z)
      exact ⟨f, by omega, b⟩
    · rw [if_neg z, if_neg z]
      obtain ⟨f, a, b⟩ := fin off v (by omega) (s2 z)
      exact ⟨f, by omega, b⟩
  have st4 : ∀ off v, off ≤ 56 → Lo w off v 8 → ∃ f, f ≤ off + 7 ∧ k_lowestBit_76 (Int32.ofNat off) v = Int32.ofNat f ∧ bl w f = true ∧ ∀ j, j < f → bl w j = false := fun off v ho L => by
    obtain ⟨s1, s2⟩ := lo_step (h := 4) (m := 15) (fun y hy => mk15 ⟨y, hy⟩) (by omega) L
    unfold k_lowestBit_76
    by_cases z : v &&& 15 = 0
    · rw [if_pos z, if_pos z, show Int32.ofNat off + 4 = Int32.ofNat (off + 4) from ofNat_add' off 4]
      obtain ⟨f, a, b⟩ := st2 (off + 4) _ (by omega) (s1 z)
      exact ⟨f, by omega, b⟩
    · rw [if_neg z, if_neg z]
      obtain ⟨f, a, b⟩ := st2 off v (by omega) (s2 z)
      exact ⟨f, by omega, b⟩
  have st8 : ∀ off v, off ≤ 48 → Lo w off v 16 → ∃ f, f ≤ off + 15 ∧ k_lowestBit_55 (Int32.ofNat off) v = Int32.ofNat f ∧ bl w f = true ∧ ∀ j, j < f → bl w j = false := fun off v ho L => by
    obtain ⟨s1, s2⟩ := lo_step (h := 8) (m := 255) (fun y hy => mk255 ⟨y, hy⟩) (by omega) L
    unfold k_lowestBit_55
    by_cases z : v &&& 255 = 0
    · rw [if_pos z, if_pos z, show Int32.ofNat off + 8 = Int32.ofNat (off + 8) from ofNat_add' off 8]
      obtain ⟨f, a, b⟩ := st4 (off + 8) _ (by omega) (s1 z)
      exact ⟨f, by omega, b⟩
    · rw [if_neg z, if_neg z]
      obtain ⟨f, a, b⟩ := st4 off v (by omega) (s2 z)
      exact ⟨f, by omega, b⟩
  have st16 : ∀ off v, off ≤ 32 → Lo w off v 32 → ∃ f, f ≤ off + 31 ∧ k_lowestBit_34 (Int32.ofNat off) v = Int32.ofNat f ∧ bl w f = true ∧ ∀ j, j < f → bl w j = false := fun off v ho L => by
    obtain ⟨s1, s2⟩ := lo_step (h := 16) (m := 65535) (fun y hy => mk16 ⟨y, hy⟩) (by omega) L
    unfold k_lowestBit_34
    by_cases z : v &&& 65535 = 0
    · rw [if_pos z, if_pos z, show Int32.ofNat off + 16 = Int32.ofNat (off + 16) from ofNat_add' off 16]
      obtain ⟨f, a, b⟩ := st8 (off + 16) _ (by omega) (s1 z)
      exact ⟨f, by omega, b⟩
    · rw [if_neg z, if_neg z]
      obtain ⟨f, a, b⟩ := st8 off v (by omega) (s2 z)
      exact ⟨f, by omega, b⟩
  have L0 : Lo w 0 w 64 := ⟨fun y => rfl, fun j hj => by omega, by
    apply Classical.byContradiction
    intro no
    exact hw (wz.mpr fun y hy => by
      cases e : bl w y with
      | false => rfl
      | true => exact absurd ⟨y, hy, e⟩ no)⟩
  obtain ⟨s1, s2⟩ := lo_step (h := 32) (m := 4294967295) (fun y hy => mk32 ⟨y, hy⟩) (by omega) L0
  unfold k_lowestBit
  rw [if_neg hw]
  by_cases z : w &&& 4294967295 = 0
  · rw [if_pos z, if_pos z, show (0 : Int32) + 32 = Int32.ofNat 32 from rfl]
    obtain ⟨f, a, b⟩ := st16 32 _ (by omega) (s1 z)
    exact ⟨f, by omega, b⟩
  · rw [if_neg z, if_neg z, show (0 : Int32) = Int32.ofNat 0 from rfl]
    obtain ⟨f, a, b⟩ := st16 0 w (by omega) (s2 z)
    exact ⟨f, by omega, b⟩
/-- the search for the highest bit -/
def Hi (w : Int64) (off : Nat) (v : Int64) (W : Nat) : Prop := (∀ y, bl v y = bl w (y + off)) ∧ (∀ j, W ≤ j → bl v j = false) ∧ ∃ y, y < W ∧ bl v y = true
theorem hi_step {w : Int64} {off h : Nat} {v : Int64} (h64 : h < 64) (L : Hi w off v (2 * h)) : (XT.ushrL v (Int32.ofNat h) = 0 → Hi w off v h) ∧ (¬ XT.ushrL v (Int32.ofNat h) = 0 → Hi w (off + h) (XT.ushrL v (Int32.ofNat h)) h) := by
  obtain ⟨l1, l2, y, hy, ey⟩ := L
  constructor
  · intro z
    have z' : ∀ j, h ≤ j → bl v j = false := fun j hj => by
      by_cases q : j - h < 64
      · have := (wz.mp z) (j - h) q
        rw [bl_ushr v h64, show j - h + h = j by omega] at this
        exact this
      · exact bl_ge v (by omega)
    exact ⟨l1, z', y, Classical.byContradiction fun q => (by rw [z' y (by omega)] at ey; cases ey), ey⟩
  · intro z
    refine ⟨fun x => by rw [bl_ushr v h64, l1]; congr 1; omega, fun j hj => by rw [bl_ushr v h64]; exact l2 _ (by omega), ?_⟩
    apply Classical.byContradiction
    intro no
    refine z (wz.mpr fun j hj => ?_)
    rw [bl_ushr v h64]
    by_cases q : j < h
    · cases e : bl v (j + h) with
      | false => rfl
      | true => exact absurd ⟨j, q, by rw [bl_ushr v h64]; exact e⟩ no
    · exact l2 _ (by omega)
theorem high_ok {w : Int64} (hw : ¬ w = 0) : ∃ f, f < 64 ∧ k_highestBit w = Int32.ofNat f ∧ bl w f = true ∧ ∀ j, f < j → bl w j = false := by
  have last : ∀ off v, off ≤ 63 → Hi w off v 1 → bl w off = true ∧ ∀ j, off < j → bl w j = false := fun off v ho L => by
    obtain ⟨l1, l2, y, hy, ey⟩ := L
    have : y = 0 := by omega
    subst this
    rw [l1, Nat.zero_add] at ey
    refine ⟨ey, fun j hj => ?_⟩
    have := l2 (j - off) (by omega)
    rw [l1, show j - off + off = j by omega] at this
    exact this
  have fin : ∀ off v, off ≤ 62 → Hi w off v 2 → ∃ f, f ≤ off + 1 ∧ k_highestBit_109 (Int32.ofNat off) v = Int32.ofNat f ∧ bl w f = true ∧ ∀ j, f < j → bl w j = false := fun off v ho L => by
    obtain ⟨s1, s2⟩ := hi_step (h := 1) (by omega) L
    unfold k_highestBit_109
    by_cases z : XT.ushrL v 1 = 0
    · rw [if_pos z]; exact ⟨off, by omega, rfl, last off v (by omega) (s1 z)⟩
    · rw [if_neg z, ofNat_succ]; exact ⟨off + 1, by omega, rfl, last (off + 1) _ (by omega) (s2 z)⟩
  have st2 : ∀ off v, off ≤ 60 → Hi w off v 4 → ∃ f, f ≤ off + 3 ∧ k_highestBit_91 (Int32.ofNat off) v = Int32.ofNat f ∧ bl w f = true ∧ ∀ j, f < j → bl w j = false := fun off v ho L => by
    obtain ⟨s1, s2⟩ := hi_step (h := 2) (by omega) L
    unfold k_highestBit_91
    by_cases z : XT.ushrL v 2 = 0
    · rw [if_pos z, if_pos z]
      obtain ⟨f, a, b⟩ := fin off v (by omega) (s1 z)
      exact ⟨f, by omega, b⟩
    · rw [if_neg z, if_neg z, show Int32.ofNat off + 2 = Int32.ofNat (off + 2) from ofNat_add' off 2]
      obtain ⟨f, a, b⟩ := fin (off + 2) _ (by omega) (s2 z)
      exact ⟨f, by omega, b⟩
  have st4 : ∀ off v, off ≤ 56 → Hi w off v 8 → ∃ f, f ≤ off + 7 ∧ k_highestBit_73 (Int32.ofNat off) v = Int32.ofNat f ∧ bl w f = true ∧ ∀ j, f < j → bl w j = false := fun off v ho L => by
    obtain ⟨s1, s2⟩ := hi_step (h := 4) (by omega) L
    unfold k_highestBit_73
    by_cases z : XT.ushrL v 4 = 0
    · rw [if_pos z, if_pos z]
      obtain ⟨f, a, b⟩ := st2 off v (by omega) (s1 z)
      exact ⟨f, by omega, b⟩
    · rw [if_neg z, if_neg z, show Int32.ofNat off + 4 = Int32.ofNat (off + 4) from ofNat_add' off 4]
      obtain ⟨f, a, b⟩ := st2 (off + 4) _ (by omega) (s2 z)
      exact ⟨f, by omega, b⟩
  have st8 : ∀ off v, off ≤ 48 → Hi w off v 16 → ∃ f, f ≤ off + 15 ∧ k_highestBit_53 (Int32.ofNat off) v = Int32.ofNat f ∧ bl w f = true ∧ ∀ j, f < j → bl w j = false := fun off v ho L => by
    obtain ⟨s1, s2⟩ := hi_step (h := 8) (by omega) L
    unfold k_highestBit_53
    by_cases z : XT.ushrL v 8 = 0
    · rw [if_pos z, if_pos z]
      obtain ⟨f, a, b⟩ := st4 off v (by omega) (s1 z)
      exact ⟨f, by omega, b⟩
    · rw [if_neg z, if_neg z, show Int32.ofNat off + 8 = Int32.ofNat (off + 8) from ofNat_add' off 8]
      obtain ⟨f, a, b⟩ := st4 (off + 8) _ (by omega) (s2 z)
      exact ⟨f, by omega, b⟩
  have st16 : ∀ off v, off ≤ 32 → Hi w off v 32 → ∃ f, f ≤ off + 31 ∧ k_highestBit_33 (Int32.ofNat off) v = Int32.ofNat f ∧ bl w f = true ∧ ∀ j, f < j → bl w j = false := fun off v ho L => by
    obtain ⟨s1, s2⟩ := hi_step (h := 16) (by omega) L
    unfold k_highestBit_33
    by_cases z : XT.ushrL v 16 = 0
    · rw [if_pos z, if_pos z]
      obtain ⟨f, a, b⟩ := st8 off v (by omega) (s1 z)
      exact ⟨f, by omega, b⟩
    · rw [if_neg z, if_neg z, show Int32.ofNat off + 16 = Int32.ofNat (off + 16) from ofNat_add' off 16]
      obtain ⟨f, a, b⟩ := st8 (off + 16) _ (by omega) (s2 z)
      exact ⟨f, by omega, b⟩
  have L0 : Hi w 0 w 64 := ⟨fun y => rfl, fun j hj => bl_ge w hj, by
    apply Classical.byContradiction
    intro no
    exact hw (wz.mpr fun y hy => by
      cases e : bl w y with
      | false => rfl
      | true => exact absurd ⟨y, hy, e⟩ no)⟩
  obtain ⟨s1, s2⟩ := hi_step (h := 32) (by omega) L0
  unfold k_highestBit
  rw [if_neg hw]
  by_cases z : XT.ushrL w 32 = 0
  · rw [if_pos z, if_pos z, show (0 : Int32) = Int32.ofNat 0 from rfl]
    obtain ⟨f, a, b⟩ := st16 0 w (by omega) (s1 z)
    exact ⟨f, by omega, b⟩
  · rw [if_neg z, if_neg z, show (0 : Int32) + 32 = Int32.ofNat 32 from rfl]
    obtain ⟨f, a, b⟩ := st16 32 _ (by omega) (s2 z)
    exact ⟨f, by omega, b⟩
/-! the count of bits -/
def vl : List Nat → Nat
  | [] => 0
  | b :: bs => b + 256 * vl bs
theorem and_split {a m A M : Nat} (ha : a < 256) (hm : m < 256) : (a + 256 * A) &&& (m + 256 * M) = (a &&& m) + 256 * (A &&& M) := by
  have h1 : ((a + 256 * A) &&& (m + 256 * M)) % 256 = a &&& m := by
    have := Nat.and_mod_two_pow (a := a + 256 * A) (b := m + 256 * M) (n := 8)
    rw [show (2 : Nat) ^ 8 = 256 from rfl] at this
    rw [this, show (a + 256 * A) % 256 = a by omega, show (m + 256 * M) % 256 = m by omega]
  have h2 : ((a + 256 * A) &&& (m + 256 * M)) / 256 = A &&& M := by
    have := Nat.and_div_two_pow (a := a + 256 * A) (b := m + 256 * M) (n := 8)
    rw [show (2 : Nat) ^ 8 = 256 from rfl] at this
    rw [this, show (a + 256 * A) / 256 = A by omega, show (m + 256 * M) / 256 = M by omega]
  have := Nat.div_add_mod ((a + 256 * A) &&& (m + 256 * M)) 256
  rw [h1, h2] at this
  omega
def By (bs : List Nat) : Prop := ∀ b ∈ bs, b < 256
def rp (m n : Nat) : Nat := vl (List.replicate n m)
theorem rp_succ (m n : Nat) : rp m (n + 1) = m + 256 * rp m n := rfl
theorem and_mask {m : Nat} (hm : m < 256) : ∀ bs, By bs → vl bs &&& rp m bs.length = vl (bs.map fun b => b &&& m)
  | [], _ => Nat.zero_and _
  | b :: bs, h => by
    rw [List.length_cons, rp_succ, vl, and_split (h b List.mem_cons_self) hm, and_mask hm bs fun x hx => h x (List.mem_cons_of_mem _ hx)]
    rfl
theorem a85 : ∀ (b : Fin 256) (p : Fin 2), (b.val / 2 + 128 * p.val) &&& 85 = (b.val / 2) &&& 85 := by decide +kernel
theorem a51 : ∀ (b : Fin 256) (p : Fin 4), (b.val / 4 + 64 * p.val) &&& 51 = (b.val / 4) &&& 51 := by decide +kernel
theorem sh1 : ∀ bs, By bs → (vl bs / 2) &&& rp 85 bs.length = vl (bs.map fun b => (b / 2) &&& 85)
  | [], _ => rfl
  | b :: bs, h => by
    have hb := h b List.mem_cons_self
    have e : (b + 256 * vl bs) / 2 = (b / 2 + 128 * (vl bs % 2)) + 256 * (vl bs / 2) := by omega
    rw [List.length_cons, rp_succ, vl, e, and_split (by omega) (by omega), sh1 bs fun x hx => h x (List.mem_cons_of_mem _ hx), a85 ⟨b, hb⟩ ⟨vl bs % 2, by omega⟩]
    rfl
theorem sh2 : ∀ bs, By bs → (vl bs / 4) &&& rp 51 bs.length = vl (bs.map fun b => (b / 4) &&& 51)
  | [], _ => rfl
  | b :: bs, h => by
    have hb := h b List.mem_cons_self
    have e : (b + 256 * vl bs) / 4 = (b / 4 + 64 * (vl bs % 4)) + 256 * (vl bs / 4) := by omega
    rw [List.length_cons, rp_succ, vl, e, and_split (by omega) (by omega), sh2 bs fun x hx => h x (List.mem_cons_of_mem _ hx), a51 ⟨b, hb⟩ ⟨vl bs % 4, by omega⟩]
    rfl
def Nb (ds : List Nat) : Prop := ∀ d ∈ ds, d % 16 ≤ 4 ∧ d / 16 ≤ 4
theorem sh4 : ∀ ds, Nb ds → (vl ds + vl ds / 16) &&& rp 15 ds.length = vl (ds.map fun d => (d + d / 16) % 16)
  | [], _ => rfl
  | d :: ds, h => by
    have hd := h d List.mem_cons_self
    have ih := sh4 ds fun x hx => h x (List.mem_cons_of_mem _ hx)
    have n4 : vl ds % 16 ≤ 4 := by
      cases ds with
      | nil => show 0 % 16 ≤ 4; omega
      | cons x xs =>
        have := h x (List.mem_cons_of_mem _ List.mem_cons_self)
        rw [vl]; omega
    have e : (d + 256 * vl ds) + (d + 256 * vl ds) / 16 = (d + d / 16 + 16 * (vl ds % 16)) + 256 * (vl ds + vl ds / 16) := by omega
    rw [List.length_cons, rp_succ, vl, e, and_split (by omega) (by omega), ih, List.map_cons, vl]
    congr 1
    have := Nat.and_two_pow_sub_one_eq_mod (d + d / 16 + 16 * (vl ds % 16)) 4
    rw [show (2 : Nat) ^ 4 - 1 = 15 from rfl, show (2 : Nat) ^ 4 = 16 from rfl] at this
    rw [this]
    omega
theorem vl_sub (f : Nat → Nat) (hf : ∀ b, b < 256 → f b ≤ b) : ∀ bs, By bs → vl (bs.map f) ≤ vl bs ∧ vl bs - vl (bs.map f) = vl (bs.map fun b => b - f b)
  | [], _ => ⟨Nat.le_refl _, rfl⟩
  | b :: bs, h => by
    obtain ⟨i1, i2⟩ := vl_sub f hf bs fun x hx => h x (List.mem_cons_of_mem _ hx)
    have := hf b (h b List.mem_cons_self)
    simp only [List.map_cons, vl]
    omega
theorem vl_add (f g : Nat → Nat) : ∀ bs : List Nat, vl (bs.map f) + vl (bs.map g) = vl (bs.map fun b => f b + g b)
  | [] => rfl
  | b :: bs => by
    have := vl_add f g bs
    simp only [List.map_cons, vl]
    omega
/-- the count of one byte -/
def c1 (b : Nat) : Nat := b - ((b / 2) &&& 85)
def c2 (c : Nat) : Nat := (c &&& 51) + ((c / 4) &&& 51)
def c3 (d : Nat) : Nat := (d + d / 16) % 16
theorem c_ok : ∀ b : Fin 256, (b.val / 2) &&& 85 ≤ b.val ∧ c1 b.val < 256 ∧ c2 (c1 b.val) % 16 ≤ 4 ∧ c2 (c1 b.val) / 16 ≤ 4 ∧ c2 (c1 b.val) < 256 ∧ c3 (c2 (c1 b.val)) = (List.range 8).countP (fun i => b.val.testBit i) ∧ c3 (c2 (c1 b.val)) ≤ 8 := by decide +kernel
def swar (x : Nat) (n : Nat) : Nat := (((x - ((x / 2) &&& rp 85 n)) &&& rp 51 n) + (((x - ((x / 2) &&& rp 85 n)) / 4) &&& rp 51 n))
theorem swar_ok (bs : List Nat) (h : By bs) : swar (vl bs) bs.length = vl (bs.map fun b => c2 (c1 b)) ∧ (swar (vl bs) bs.length + swar (vl bs) bs.length / 16) &&& rp 15 bs.length = vl (bs.map fun b => c3 (c2 (c1 b))) := by
  have e1 : vl bs - ((vl bs / 2) &&& rp 85 bs.length) = vl (bs.map c1) := by
    rw [sh1 bs h]
    exact (vl_sub (fun b => (b / 2) &&& 85) (fun b hb => (c_ok ⟨b, hb⟩).1) bs h).2
  have b1 : By (bs.map c1) := fun x hx => by
    obtain ⟨b, hb, rfl⟩ := List.mem_map.mp hx
    exact (c_ok ⟨b, h b hb⟩).2.1
  have e2 : swar (vl bs) bs.length = vl (bs.map fun b => c2 (c1 b)) := by
    unfold swar
    rw [e1]
    have a := and_mask (m := 51) (by omega) _ b1
    have b := sh2 _ b1
    rw [List.length_map] at a b
    rw [a, b, vl_add, List.map_map]
    rfl
  refine ⟨e2, ?_⟩
  rw [e2]
  have nb : Nb (bs.map fun b => c2 (c1 b)) := fun x hx => by
    obtain ⟨b, hb, rfl⟩ := List.mem_map.mp hx
    exact ⟨(c_ok ⟨b, h b hb⟩).2.2.1, (c_ok ⟨b, h b hb⟩).2.2.2.1⟩
  have := sh4 _ nb
  rw [List.length_map, List.map_map] at this
  exact this
theorem mul_sum {p0 p1 p2 p3 p4 p5 p6 p7 : Nat} (h0 : p0 ≤ 8) (h1 : p1 ≤ 8) (h2 : p2 ≤ 8) (h3 : p3 ≤ 8) (h4 : p4 ≤ 8) (h5 : p5 ≤ 8) (h6 : p6 ≤ 8) (h7 : p7 ≤ 8) : (vl [p0, p1, p2, p3, p4, p5, p6, p7] * 72340172838076673) % 18446744073709551616 / 72057594037927936 = p0 + p1 + p2 + p3 + p4 + p5 + p6 + p7 := by
  have key : ∀ L S Q : Nat, L < 72057594037927936 → S < 256 → (L + 72057594037927936 * S + 18446744073709551616 * Q) % 18446744073709551616 / 72057594037927936 = S := fun L S Q h1 h2 => by omega
  have e : vl [p0, p1, p2, p3, p4, p5, p6, p7] * 72340172838076673 = (p0 + 256 * (p0 + p1) + 65536 * (p0 + p1 + p2) + 16777216 * (p0 + p1 + p2 + p3) + 4294967296 * (p0 + p1 + p2 + p3 + p4) + 1099511627776 * (p0 + p1 + p2 + p3 + p4 + p5) + 281474976710656 * (p0 + p1 + p2 + p3 + p4 + p5 + p6)) + 72057594037927936 * (p0 + p1 + p2 + p3 + p4 + p5 + p6 + p7) + 18446744073709551616 * ((p1 + p2 + p3 + p4 + p5 + p6 + p7) + 256 * (p2 + p3 + p4 + p5 + p6 + p7) + 65536 * (p3 + p4 + p5 + p6 + p7) + 16777216 * (p4 + p5 + p6 + p7) + 4294967296 * (p5 + p6 + p7) + 1099511627776 * (p6 + p7) + 281474976710656 * p7) := by
    simp only [vl]
    omega
  rw [e]
  exact key _ _ _ (by omega) (by omega)
theorem ushrL_nat (w : Int64) {k : Nat} (hk : k < 64) : (XT.ushrL w (Int32.ofNat k)).toBitVec.toNat = w.toBitVec.toNat / 2 ^ k := by
  have h1 : (XT.ushrL w (Int32.ofNat k)).toBitVec = w.toBitVec >>> k := by
    unfold XT.ushrL
    show (w.toUInt64 >>> ((Int32.ofNat k).toInt64.toUInt64 &&& Int64.toUInt64 63)).toBitVec = _
    rw [UInt64.toBitVec_shiftRight, u63 ⟨k, hk⟩, BitVec.ushiftRight_eq']
    show w.toBitVec >>> (BitVec.ofNat 64 k % 64).toNat = _
    congr 1
    rw [BitVec.toNat_umod, BitVec.toNat_ofNat]
    show k % 2 ^ 64 % 64 = k
    omega
  rw [h1, BitVec.toNat_ushiftRight, Nat.shiftRight_eq_div_pow]
def by8 (X : Nat) : List Nat := [X % 256, X / 256 % 256, X / 65536 % 256, X / 16777216 % 256, X / 4294967296 % 256, X / 1099511627776 % 256, X / 281474976710656 % 256, X / 72057594037927936 % 256]
theorem by8_vl {X : Nat} (h : X < 18446744073709551616) : vl (by8 X) = X := by
  simp only [by8, vl]
  omega
theorem by8_by (X : Nat) : By (by8 X) := fun b hb => by
  simp only [by8, List.mem_cons, List.not_mem_nil, or_false] at hb
  rcases hb with h | h | h | h | h | h | h | h <;> rw [h] <;> exact Nat.mod_lt _ (by omega)
theorem rp85 : rp 85 8 = 6148914691236517205 := by decide
theorem rp51 : rp 51 8 = 3689348814741910323 := by decide
theorem rp15 : rp 15 8 = 1085102592571150095 := by decide
theorem swar_le (x : Nat) (hx : x < 18446744073709551616) : (x / 2) &&& rp 85 8 ≤ x ∧ swar x 8 < 18446744073709551616 / 2 := by
  have hb := by8_by x
  have e := by8_vl hx
  refine ⟨Nat.le_trans Nat.and_le_left (by omega), ?_⟩
  have := (swar_ok (by8 x) hb).1
  rw [e, show (by8 x).length = 8 from rfl] at this
  rw [this]
  have k : ∀ b, b < 256 → c2 (c1 b) ≤ 68 := fun b hb => by have := c_ok ⟨b, hb⟩; dsimp only at this; omega
  simp only [by8, List.map_cons, List.map_nil, vl]
  have m : ∀ y, y % 256 < 256 := fun y => Nat.mod_lt _ (by omega)
  have k0 := k _ (m x)
  have k1 := k _ (m (x / 256))
  have k2 := k _ (m (x / 65536))
  have k3 := k _ (m (x / 16777216))
  have k4 := k _ (m (x / 4294967296))
  have k5 := k _ (m (x / 1099511627776))
  have k6 := k _ (m (x / 281474976710656))
  have k7 := k _ (m (x / 72057594037927936))
  generalize c2 (c1 (x % 256)) = y0 at k0 ⊢
  generalize c2 (c1 (x / 256 % 256)) = y1 at k1 ⊢
  generalize c2 (c1 (x / 65536 % 256)) = y2 at k2 ⊢
  generalize c2 (c1 (x / 16777216 % 256)) = y3 at k3 ⊢
  generalize c2 (c1 (x / 4294967296 % 256)) = y4 at k4 ⊢
  generalize c2 (c1 (x / 1099511627776 % 256)) = y5 at k5 ⊢
  generalize c2 (c1 (x / 281474976710656 % 256)) = y6 at k6 ⊢
  generalize c2 (c1 (x / 72057594037927936 % 256)) = y7 at k7 ⊢
  omega
theorem cnt8 (X : Nat) (i : Nat) : (List.range' (8 * i) 8).countP (fun y => X.testBit y) = (List.range 8).countP (fun j => (X / 2 ^ (8 * i) % 256).testBit j) := by
  rw [List.range'_eq_map_range, List.countP_map]
  apply List.countP_congr
  intro j hj
  have hj := List.mem_range.mp hj
  show X.testBit (8 * i + j) = true ↔ _
  rw [show (256 : Nat) = 2 ^ 8 from rfl, Nat.testBit_mod_two_pow, Nat.testBit_div_two_pow, decide_eq_true hj, Bool.true_and, Nat.add_comm]
theorem count_ok (w : Int64) : k_bitCount w = Int32.ofNat ((List.range 64).countP fun y => bl w y) := by
  have X64 : w.toBitVec.toNat < 18446744073709551616 := w.toBitVec.isLt
  obtain ⟨X, hX⟩ : ∃ X, X = w.toBitVec.toNat := ⟨_, rfl⟩
  rw [← hX] at X64
  obtain ⟨l1, l2⟩ := swar_le X X64
  -- the first word
  obtain ⟨a, ha⟩ : ∃ a, a = w - ((XT.ushrL w (1 : Int32)) &&& (6148914691236517205 : Int64)) := ⟨_, rfl⟩
  have na : a.toBitVec.toNat = X - ((X / 2) &&& rp 85 8) := by
    rw [ha, Int64.toBitVec_sub, BitVec.toNat_sub, Int64.toBitVec_and, BitVec.toNat_and, show (XT.ushrL w (1 : Int32)).toBitVec.toNat = _ from ushrL_nat w (k := 1) (by omega), show (6148914691236517205 : Int64).toBitVec.toNat = rp 85 8 by rw [rp85]; rfl, ← hX, show (2 : Nat) ^ 1 = 2 from rfl]
    show (18446744073709551616 - _ + X) % 18446744073709551616 = _
    omega
  obtain ⟨b, hb⟩ : ∃ b, b = (a &&& (3689348814741910323 : Int64)) + ((XT.ushrL a (2 : Int32)) &&& (3689348814741910323 : Int64)) := ⟨_, rfl⟩
  have nb : b.toBitVec.toNat = swar X 8 := by
    rw [hb, Int64.toBitVec_add, BitVec.toNat_add, Int64.toBitVec_and, BitVec.toNat_and, Int64.toBitVec_and, BitVec.toNat_and, show (XT.ushrL a (2 : Int32)).toBitVec.toNat = _ from ushrL_nat a (k := 2) (by omega), show (3689348814741910323 : Int64).toBitVec.toNat = rp 51 8 by rw [rp51]; rfl, na, show (2 : Nat) ^ 2 = 4 from rfl]
    show swar X 8 % 18446744073709551616 = _
    omega
  obtain ⟨c, hc⟩ : ∃ c, c = (b + (XT.ushrL b (4 : Int32))) &&& (1085102592571150095 : Int64) := ⟨_, rfl⟩
  have nc : c.toBitVec.toNat = vl ((by8 X).map fun b => c3 (c2 (c1 b))) := by
    have sw := (swar_ok (by8 X) (by8_by X)).2
    rw [by8_vl X64, show (by8 X).length = 8 from rfl] at sw
    rw [← sw, hc, Int64.toBitVec_and, BitVec.toNat_and, Int64.toBitVec_add, BitVec.toNat_add, show (XT.ushrL b (4 : Int32)).toBitVec.toNat = _ from ushrL_nat b (k := 4) (by omega), show (1085102592571150095 : Int64).toBitVec.toNat = rp 15 8 by rw [rp15]; rfl, nb, show (2 : Nat) ^ 4 = 16 from rfl]
    show (swar X 8 + swar X 8 / 16) % 18446744073709551616 &&& _ = _
    rw [Nat.mod_eq_of_lt (by omega)]
  have e : k_bitCount w = k_bitCount_34 c := by
    rw [hc, hb, ha]; rfl
  have m : ∀ y, y % 256 < 256 := fun y => Nat.mod_lt _ (by omega)
  have k8 : ∀ y, c3 (c2 (c1 (y % 256))) ≤ 8 := fun y => (c_ok ⟨y % 256, m y⟩).2.2.2.2.2.2
  have kc : ∀ y, c3 (c2 (c1 (y % 256))) = (List.range 8).countP (fun i => (y % 256).testBit i) := fun y => (c_ok ⟨y % 256, m y⟩).2.2.2.2.2.1
  obtain ⟨d, hd⟩ : ∃ d, d = XT.ushrL (c * (72340172838076673 : Int64)) (56 : Int32) := ⟨_, rfl⟩
  have nd : d.toBitVec.toNat = (List.range 64).countP fun y => bl w y := by
    rw [hd, show (XT.ushrL (c * (72340172838076673 : Int64)) (56 : Int32)).toBitVec.toNat = _ from ushrL_nat _ (k := 56) (by omega), Int64.toBitVec_mul, BitVec.toNat_mul, nc, show (72340172838076673 : Int64).toBitVec.toNat = 72340172838076673 from rfl, show (2 : Nat) ^ 64 = 18446744073709551616 from rfl, show (2 : Nat) ^ 56 = 72057594037927936 from rfl]
    simp only [by8, List.map_cons, List.map_nil]
    rw [mul_sum (k8 _) (k8 _) (k8 _) (k8 _) (k8 _) (k8 _) (k8 _) (k8 _)]
    have sp : List.range 64 = List.range' (8 * 0) 8 ++ (List.range' (8 * 1) 8 ++ (List.range' (8 * 2) 8 ++ (List.range' (8 * 3) 8 ++ (List.range' (8 * 4) 8 ++ (List.range' (8 * 5) 8 ++ (List.range' (8 * 6) 8 ++ List.range' (8 * 7) 8)))))) := by decide
    have hbl : (fun y => bl w y) = fun y => X.testBit y := by funext y; unfold bl; rw [hX]; rfl
    rw [hbl, sp]
    simp only [List.countP_append]
    rw [cnt8, cnt8, cnt8, cnt8, cnt8, cnt8, cnt8, cnt8, kc, kc, kc, kc, kc, kc, kc, kc]
    simp only [Nat.mul_zero, Nat.pow_zero, Nat.div_one]
    rw [show (2 : Nat) ^ (8 * 1) = 256 from rfl, show (2 : Nat) ^ (8 * 2) = 65536 from rfl, show (2 : Nat) ^ (8 * 3) = 16777216 from rfl, show (2 : Nat) ^ (8 * 4) = 4294967296 from rfl, show (2 : Nat) ^ (8 * 5) = 1099511627776 from rfl, show (2 : Nat) ^ (8 * 6) = 281474976710656 from rfl, show (2 : Nat) ^ (8 * 7) = 72057594037927936 from rfl]
    omega
  rw [e]
  unfold k_bitCount_34
  rw [← hd]
  have le : (List.range 64).countP (fun y => bl w y) ≤ 64 := Nat.le_trans List.countP_le_length (by simp)
  apply Int32.toBitVec_inj.mp
  apply BitVec.eq_of_toNat_eq
  rw [Int64.toBitVec_toInt32, BitVec.signExtend_eq_setWidth_of_le _ (by omega), BitVec.toNat_setWidth, nd]
  show _ = (BitVec.ofNat 32 _).toNat
  rw [BitVec.toNat_ofNat]
/-! ### the lists of pages -/
def hdI : List Nat → Int32
  | [] => -1
  | x :: _ => Int32.ofNat x
def setHd (pv : List Int32) (v : Int32) : List Nat → List Int32
  | [] => pv
  | y :: _ => pv.set y v
def lastI (p : Int32) : Option Nat → Int32
  | none => p
  | some y => Int32.ofNat y
def setLast (nx : List Int32) (n : Int32) : Option Nat → List Int32
  | none => nx
  | some y => nx.set y n
def hdOr (n h : Int32) : List Nat → Int32
  | [] => n
  | _ :: _ => h
/-- the list l hangs at h, the page before it being p -/
def Ch (nx pv : List Int32) : Int32 → Int32 → List Nat → Prop
  | _, h, [] => h = -1
  | p, h, x :: r => h = Int32.ofNat x ∧ x < 64 ∧ pv[x]? = some p ∧ ∃ n, nx[x]? = some n ∧ Ch nx pv (Int32.ofNat x) n r
theorem Ch.congr {nx pv nx' pv' : List Int32} : ∀ {p h : Int32} {l : List Nat}, Ch nx pv p h l → (∀ x ∈ l, nx'[x]? = nx[x]? ∧ pv'[x]? = pv[x]?) → Ch nx' pv' p h l
  | _, _, [], c, _ => c
  | p, h, x :: r, ⟨c1, c2, c3, n, c4, c5⟩, g => ⟨c1, c2, by rw [(g x (List.mem_cons_self ..)).2]; exact c3, n, by rw [(g x (List.mem_cons_self ..)).1]; exact c4, c5.congr fun y hy => g y (List.mem_cons_of_mem _ hy)⟩
theorem Ch.lt {nx pv : List Int32} : ∀ {p h : Int32} {l : List Nat}, Ch nx pv p h l → ∀ x ∈ l, x < 64
  | _, _, [], _, _, hx => nomatch hx
  | p, h, y :: r, ⟨_, c2, _, n, _, c5⟩, x, hx => by
    rcases List.mem_cons.mp hx with e | e
    · rw [e]; exact c2
    · exact c5.lt x e
/-- the page before the list may be another one -/
theorem Ch.repl {nx pv pv' : List Int32} {p p' h : Int32} {x : Nat} {r : List Nat} (c : Ch nx pv p h (x :: r)) (g : ∀ y ∈ r, pv'[y]? = pv[y]?) (gx : pv'[x]? = some p') : Ch nx pv' p' h (x :: r) := by
  obtain ⟨c1, c2, c3, n, c4, c5⟩ := c
  exact ⟨c1, c2, gx, n, c4, c5.congr fun y hy => ⟨rfl, g y hy⟩⟩
theorem Ch.head {nx pv : List Int32} {p h : Int32} {l : List Nat} (c : Ch nx pv p h l) : h = hdI l := by
  cases l with
  | nil => exact c
  | cons x r => exact c.1
/-- putting a page before a list -/
theorem Ch.link {nx pv : List Int32} {h : Int32} {l : List Nat} {x : Nat} (c : Ch nx pv (-1) h l) (hx : x < 64) (hxl : x ∉ l) (nd : l.Nodup) (ln : nx.length = 64) (lp : pv.length = 64) :
    Ch (nx.set x h) (setHd (pv.set x (-1)) (Int32.ofNat x) l) (-1) (Int32.ofNat x) (x :: l) := by
  cases l with
  | nil => exact ⟨rfl, hx, by show (pv.set x (-1))[x]? = _; rw [List.getElem?_set_self (by omega)], h, by rw [List.getElem?_set_self (by omega)], c⟩
  | cons y r =>
    have hyx : y ≠ x := fun e => hxl (by rw [e]; exact List.mem_cons_self ..)
    have hy := c.2.1
    have hyr : y ∉ r := (List.nodup_cons.mp nd).1
    refine ⟨rfl, hx, ?_, h, ?_, ?_⟩
    · show ((pv.set x (-1)).set y (Int32.ofNat x))[x]? = _
      rw [List.getElem?_set_ne hyx, List.getElem?_set_self (by omega)]
    · rw [List.getElem?_set_self (by omega)]
    · show Ch (nx.set x h) ((pv.set x (-1)).set y (Int32.ofNat x)) _ _ _
      have c' : Ch (nx.set x h) pv (-1) h (y :: r) := c.congr fun z hz => ⟨by rw [List.getElem?_set_ne (fun e => hxl (by rw [e]; exact hz))], rfl⟩
      refine c'.repl (fun z hz => ?_) ?_
      · rw [List.getElem?_set_ne (fun e => hyr (by rw [e]; exact hz)), List.getElem?_set_ne (fun e => hxl (by rw [e]; exact List.mem_cons_of_mem _ hz))]
      · rw [List.getElem?_set_self (by simp; omega)]
/-- taking a page out of a list: what it says of its neighbours, and the list behind it -/
theorem Ch.find {nx pv : List Int32} : ∀ {p h : Int32} {l1 l2 : List Nat} {x : Nat}, Ch nx pv p h (l1 ++ x :: l2) → ∃ n, nx[x]? = some n ∧ pv[x]? = some (lastI p l1.getLast?) ∧ Ch nx pv (Int32.ofNat x) n l2
  | p, h, [], l2, x, ⟨_, _, c3, n, c4, c5⟩ => ⟨n, c4, c3, c5⟩
  | p, h, y :: r, l2, x, ⟨_, _, _, n, _, c5⟩ => by
    obtain ⟨m, g1, g2, g3⟩ := c5.find
    refine ⟨m, g1, ?_, g3⟩
    rw [g2]
    cases r with
    | nil => rfl
    | cons z r =>
      rw [List.getLast?_cons_cons]
      cases e : (z :: r).getLast? with
      | none => simp at e
      | some w => rfl
theorem Ch.unlink {nx pv : List Int32} (ln : nx.length = 64) (lp : pv.length = 64) : ∀ {p h : Int32} {l1 l2 : List Nat} {x : Nat} {n : Int32}, Ch nx pv p h (l1 ++ x :: l2) → (l1 ++ x :: l2).Nodup → nx[x]? = some n →
    Ch (setLast nx n l1.getLast?) (setHd pv (lastI p l1.getLast?) l2) p (hdOr n h l1) (l1 ++ l2)
  | p, h, [], l2, x, n, c, nd, hn => by
    obtain ⟨_, _, _, m, c4, c5⟩ := c
    rw [hn] at c4
    cases c4
    cases l2 with
    | nil => exact c5
    | cons z r =>
      have nd2 : (z :: r).Nodup := (List.nodup_cons.mp nd).2
      have hz := c5.2.1
      refine c5.repl (fun y hy => ?_) ?_
      · show (pv.set z _)[y]? = _
        rw [List.getElem?_set_ne (fun e => (List.nodup_cons.mp nd2).1 (by rw [e]; exact hy))]
      · show (pv.set z _)[z]? = _
        rw [List.getElem?_set_self (by omega)]; rfl
  | p, h, y :: r, l2, x, n, c, nd, hn => by
    obtain ⟨c1, c2, c3, m, c4, c5⟩ := c
    have nd' : (r ++ x :: l2).Nodup := (List.nodup_cons.mp nd).2
    have hy' : y ∉ r ++ x :: l2 := (List.nodup_cons.mp nd).1
    have IH := Ch.unlink ln lp c5 nd' hn
    cases r with
    | nil =>
      dsimp only [List.nil_append] at IH ⊢
      refine ⟨c1, c2, ?_, n, ?_, ?_⟩
      · cases l2 with
        | nil => exact c3
        | cons z q =>
          show (pv.set z _)[y]? = _
          rw [List.getElem?_set_ne (fun e => hy' (by rw [← e]; simp))]; exact c3
      · show (nx.set y n)[y]? = _
        rw [List.getElem?_set_self (by omega)]
      · show Ch (nx.set y n) _ _ _ _
        refine IH.congr fun w hw => ⟨?_, rfl⟩
        show (nx.set y n)[w]? = nx[w]?
        rw [List.getElem?_set_ne (fun e => hy' (by rw [e]; simp [hw]))]
    | cons z q =>
      have e1 : (y :: z :: q).getLast? = (z :: q).getLast? := by simp [List.getLast?_cons_cons]
      rw [e1]
      have hlast : ∃ w, (z :: q).getLast? = some w ∧ w ∈ z :: q := by
        cases e : (z :: q).getLast? with
        | none => simp at e
        | some w => exact ⟨w, rfl, List.mem_of_getLast? e⟩
      obtain ⟨w, ew, hw⟩ := hlast
      rw [ew] at IH ⊢
      simp only [setLast, lastI, hdOr] at IH ⊢
      have hyw : w ≠ y := fun e => hy' (by rw [← e]; exact List.mem_append_left _ hw)
      refine ⟨c1, c2, ?_, m, ?_, IH⟩
      · cases l2 with
        | nil => exact c3
        | cons z' q' =>
          show (pv.set z' _)[y]? = _
          rw [List.getElem?_set_ne (fun e => hy' (by rw [← e]; simp))]; exact c3
      · rw [List.getElem?_set_ne hyw]; exact c4
/-! ### the parts of a compactor with 8 frames and 4 pages a process -/
def Geo (NF NP : Nat) (s : S) : Prop := gI s 0 = Int32.ofNat NF ∧ gI s 1 = Int32.ofNat NP ∧ (gA s 0).length = 64 ∧ (gA s 1).length = 64 ∧ (gA s 2).length = 64 ∧ (gA s 3).length = 64 ∧ (gA s 4).length = 64 ∧ (gA s 5).length = 64 ∧ (gA s 6).length = 64 ∧ (gB s 7).length = 7 ∧ (gI s 6 = 0 ∨ gI s 6 = 1) ∧ 8 ≤ NF ∧ NF ≤ 64 ∧ 4 ≤ NP ∧ NP ≤ 16
def RS (NF NP : Nat) (s : S) (st : Nat → Nat) : Prop := (∀ f, f < NF → st f ≤ 3 ∧ (gA s 0)[f]? = some (Int32.ofNat (st f))) ∧ (∀ f, f < 64 → bl (gL s 2) f = decide (f < NF ∧ st f = 0)) ∧ (∀ f, f < 64 → bl (gL s 3) f = decide (f < NF ∧ st f = 1)) ∧ (gI s 6 = 0 → ∀ k, k < 7 → (gB s 7)[k]? = some (lev (gL s 2) k))
theorem Geo.dims {NF : Nat} {NP : Nat} {s : S} (G : Geo NF NP s) : 8 ≤ NF ∧ NF ≤ 64 ∧ 4 ≤ NP ∧ NP ≤ 16 := G.2.2.2.2.2.2.2.2.2.2.2
theorem inr_yes {NF : Nat} {s : S} (h : gI s 0 = Int32.ofNat NF) {f : Nat} (hf : f < NF) (h64 : NF ≤ 64) : k_frameInRange (Int32.ofNat f) s = 1 := by
  unfold k_frameInRange
  rw [if_neg (ofNat_nonneg (by omega)), h, if_pos (by rw [ofNat_lt (by omega) (by omega)]; exact hf)]
theorem enter_ok {NF : Nat} {NP : Nat} {s : S} {st : Nat → Nat} (G : Geo NF NP s) (R : RS NF NP s st) {f x : Nat} (hf : f < NF) (hx : x ≤ 3) : ∃ s', k_enterState (Int32.ofNat f) (Int32.ofNat x) s = some s' ∧ Fx [6] [2, 3, 4, 5] [0] [] s s' ∧ Geo NF NP s' ∧ RS NF NP s' (aupd st f x) := by
  obtain ⟨g0, g1, l0, l1, l2, l3, l4, l5, l6, l7, g6⟩ := id G
  have hN := G.dims
  obtain ⟨r1, b2, b3, r4⟩ := id R
  have nb : ∀ x : Fin 4, nar .byte (Int32.ofNat x.val).toInt8.toInt32 = Int32.ofNat x.val := by decide
  have nbx := nb ⟨x, by omega⟩
  dsimp only at nbx
  have F0 : Fx [6] [2, 3, 4, 5] [0] [] s s := Fx.refl ..
  have fin : ∀ t : S, Fx [6] [2, 3, 4, 5] [0] [] s t → gA t 0 = gA s 0 → (∀ y, y < 64 → bl (gL t 2) y = if y = f then decide (x = 0) else bl (gL s 2) y) → (∀ y, y < 64 → bl (gL t 3) y = if y = f then decide (x = 1) else bl (gL s 3) y) → ∃ s', k_enterState_134 (Int32.ofNat f) (Int32.ofNat x) t = some s' ∧ Fx [6] [2, 3, 4, 5] [0] [] s s' ∧ Geo NF NP s' ∧ RS NF NP s' (aupd st f x) := by
    intro t F a0 a2 a3
    refine ⟨sI (sA t 0 ((gA s 0).set f (Int32.ofNat x))) 6 1, ?_, (F.sA (by simp)).sI (by simp), ?_, ?_⟩
    · unfold k_enterState_134
      rw [a0, nbx, st_ofNat _ _ (by omega) (by omega), Option.bind_some]
    · have A : ∀ g, g ≠ 0 → gA (sI (sA t 0 ((gA s 0).set f (Int32.ofNat x))) 6 1) g = gA s g := fun g hg => by rw [gA_sI, gA_sA, if_neg hg, F.2.2.1 g (by simpa using hg)]
      refine ⟨?_, ?_, ?_, ?_, ?_, ?_, ?_, ?_, ?_, ?_, ?_, hN⟩
      · rw [gI_sI, if_neg (by decide), gI_sA, F.1 0 (by simp), g0]
      · rw [gI_sI, if_neg (by decide), gI_sA, F.1 1 (by simp), g1]
      · rw [gA_sI, gA_sA, if_pos rfl, List.length_set, l0]
      · rw [A 1 (by decide), l1]
      · rw [A 2 (by decide), l2]
      · rw [A 3 (by decide), l3]
      · rw [A 4 (by decide), l4]
      · rw [A 5 (by decide), l5]
      · rw [A 6 (by decide), l6]
      · rw [gB_sI, gB_sA, F.2.2.2 7 (by simp), l7]
      · right; rw [gI_sI, if_pos rfl]
    · have upb : ∀ v : Nat, ∀ y, y < 64 → (if y = f then decide (x = v) else decide (y < NF ∧ st y = v)) = decide (y < NF ∧ aupd st f x y = v) := fun v y _ => by
        unfold aupd
        by_cases q : y = f
        · rw [if_pos q, if_pos q]; exact decide_eq_decide.mpr ⟨fun z => ⟨by omega, z⟩, fun z => z.2⟩
        · rw [if_neg q, if_neg q]
      refine ⟨fun g hg => ?_, fun y hy => ?_, fun y hy => ?_, fun q => ?_⟩
      · rw [gA_sI, gA_sA, if_pos rfl]
        unfold aupd
        by_cases q : g = f
        · subst q; rw [if_pos rfl, List.getElem?_set_self (by omega)]; exact ⟨hx, rfl⟩
        · rw [if_neg q, List.getElem?_set_ne (by omega)]; exact r1 g hg
      · rw [gL_sI, gL_sA, a2 y hy, b2 y hy, upb 0 y hy]
      · rw [gL_sI, gL_sA, a3 y hy, b3 y hy, upb 1 y hy]
      · rw [gI_sI, if_pos rfl] at q; cases q
  have cl : ∀ (w : Int64) (y : Nat), bl (w &&& (k_bitOf (Int32.ofNat f) ^^^ (-1))) y = if y = f then false else bl w y := fun w y => by
    rw [bl_andn, bitOf_bit (by omega)]
    by_cases q : y = f
    · rw [if_pos q, decide_eq_true q]; simp
    · rw [if_neg q, decide_eq_false q]; simp
  have pt : ∀ (w : Int64) (y : Nat), bl ((w &&& (k_bitOf (Int32.ofNat f) ^^^ (-1))) ||| k_bitOf (Int32.ofNat f)) y = if y = f then true else bl w y := fun w y => by
    rw [bl_or, cl, bitOf_bit (by omega)]
    by_cases q : y = f
    · rw [if_pos q, if_pos q, decide_eq_true q]; rfl
    · rw [if_neg q, if_neg q, decide_eq_false q]; simp
  unfold k_enterState
  rw [inr_yes g0 hf hN.2.1, if_neg (by decide)]
  have x4 : x = 0 ∨ x = 1 ∨ x = 2 ∨ x = 3 := by omega
  rcases x4 with rfl | rfl | rfl | rfl
  · rw [if_pos (show Int32.ofNat 0 = 0 from rfl)]
    refine fin _ (((((F0.sL (by simp)).sL (by simp)).sL (by simp)).sL (by simp)).sL (by simp)) (by simp only [gA_sL]) (fun y hy => ?_) (fun y hy => ?_)
    · simp only [gL_sL]; exact pt _ y
    · simp only [gL_sL]; exact cl _ y
  · rw [if_neg (by decide), if_pos (show Int32.ofNat 1 = 1 from rfl)]
    refine fin _ (((((F0.sL (by simp)).sL (by simp)).sL (by simp)).sL (by simp)).sL (by simp)) (by simp only [gA_sL]) (fun y hy => ?_) (fun y hy => ?_)
    · simp only [gL_sL]; exact cl _ y
    · simp only [gL_sL]; exact pt _ y
  · rw [if_neg (by decide), if_neg (by decide), if_pos (show Int32.ofNat 2 = 2 from rfl)]
    refine fin _ (((((F0.sL (by simp)).sL (by simp)).sL (by simp)).sL (by simp)).sL (by simp)) (by simp only [gA_sL]) (fun y hy => ?_) (fun y hy => ?_)
    · simp only [gL_sL]; exact cl _ y
    · simp only [gL_sL]; exact cl _ y
  · rw [if_neg (by decide), if_neg (by decide), if_neg (by decide)]
    refine fin _ (((((F0.sL (by simp)).sL (by simp)).sL (by simp)).sL (by simp)).sL (by simp)) (by simp only [gA_sL]) (fun y hy => ?_) (fun y hy => ?_)
    · simp only [gL_sL]; exact cl _ y
    · simp only [gL_sL]; exact cl _ y
def pcode : Option Nat → Int32
  | none => -1
  | some f => Int32.ofNat f
def RV (NF NP : Nat) (s : S) (val : Nat → Int32) : Prop := ∀ f, f < NF → (gA s 1)[f]? = some (val f)
def RC (NF NP : Nat) (s : S) (c : Nat → Nat) : Prop := ∀ f, f < NF → (gA s 2)[f]? = some (Int32.ofNat (c f))
def RP (s : S) (pf : Nat → Option Nat) : Prop := ∀ x, x < 64 → (gA s 3)[x]? = some (pcode (pf x))
def RM (NF NP : Nat) (s : S) (ls : Nat → List Nat) : Prop := ∀ f, f < NF → ∃ h, (gA s 4)[f]? = some h ∧ Ch (gA s 5) (gA s 6) (-1) h (ls f)
def Dj (NF NP : Nat) (ls : Nat → List Nat) : Prop := (∀ f, f < NF → (ls f).Nodup) ∧ ∀ f g x, f < NF → g < NF → x ∈ ls f → x ∈ ls g → f = g
theorem Geo.same {NF : Nat} {NP : Nat} {s t : S} (G : Geo NF NP s) (F : Fx [] [] [1, 2, 3, 4, 5, 6] [] s t) (l1 : (gA t 1).length = 64) (l2 : (gA t 2).length = 64) (l3 : (gA t 3).length = 64) (l4 : (gA t 4).length = 64) (l5 : (gA t 5).length = 64) (l6 : (gA t 6).length = 64) : Geo NF NP t := by
  obtain ⟨g0, g1, k0, _, _, _, _, _, _, k7, g6⟩ := id G
  exact ⟨by rw [F.1 0 (by simp)]; exact g0, by rw [F.1 1 (by simp)]; exact g1, by rw [F.2.2.1 0 (by simp)]; exact k0, l1, l2, l3, l4, l5, l6, by rw [F.2.2.2 7 (by simp)]; exact k7, by rw [F.1 6 (by simp)]; exact g6⟩
theorem link_ok {NF : Nat} {NP : Nat} {s : S} {pf : Nat → Option Nat} {ls : Nat → List Nat} (G : Geo NF NP s) (P : RP s pf) (M : RM NF NP s ls) (D : Dj NF NP ls) {x t : Nat} (hx : x < 64) (ht : t < NF) (hn : ∀ f, f < NF → x ∉ ls f) : ∃ s', k_rmapLink (Int32.ofNat x) (Int32.ofNat t) s = some s' ∧ Fx [] [] [3, 4, 5, 6] [] s s' ∧ Geo NF NP s' ∧ RP s' (aupd pf x (some t)) ∧ RM NF NP s' (aupd ls t (x :: ls t)) := by
  obtain ⟨g0, g1, l0, l1, l2, l3, l4, l5, l6, l7, g6⟩ := id G
  obtain ⟨h, e4, c⟩ := M t ht
  have F0 : Fx [] [] [3, 4, 5, 6] [] s s := Fx.refl ..
  have hd := c.head
  obtain ⟨pv, hpv⟩ : ∃ pv, pv = setHd ((gA s 6).set x (-1)) (Int32.ofNat x) (ls t) := ⟨_, rfl⟩
  have lpv : pv.length = 64 := by rw [hpv]; cases ls t <;> simp [setHd, l6]
  have c' : Ch ((gA s 5).set x h) pv (-1) (Int32.ofNat x) (x :: ls t) := by
    rw [hpv]; exact c.link hx (hn t ht) (D.1 t ht) l5 l6
  obtain ⟨s', hs'⟩ : ∃ s', s' = sA (sA (sA (sA s 6 pv) 5 ((gA s 5).set x h)) 4 ((gA s 4).set t (Int32.ofNat x))) 3 ((gA s 3).set x (Int32.ofNat t)) := ⟨_, rfl⟩
  have a3 : gA s' 3 = (gA s 3).set x (Int32.ofNat t) := by rw [hs']; simp [gA_sA]
  have a4 : gA s' 4 = (gA s 4).set t (Int32.ofNat x) := by rw [hs']; simp [gA_sA]
  have a5 : gA s' 5 = (gA s 5).set x h := by rw [hs']; simp [gA_sA]
  have a6 : gA s' 6 = pv := by rw [hs']; simp [gA_sA]
  have F : Fx [] [] [3, 4, 5, 6] [] s s' := by rw [hs']; exact (((F0.sA (by simp)).sA (by simp)).sA (by simp)).sA (by simp)
  refine ⟨s', ?_, F, G.same (F.mono (by simp) (by simp) (by simp) (by simp)) (by rw [F.2.2.1 1 (by simp)]; exact l1) (by rw [F.2.2.1 2 (by simp)]; exact l2) (by rw [a3, List.length_set]; exact l3) (by rw [a4, List.length_set]; exact l4) (by rw [a5, List.length_set]; exact l5) (by rw [a6]; exact lpv), ?_, ?_⟩
  · unfold k_rmapLink k_rmapLink_38
    rw [ix_ofNat _ (by omega), e4, Option.bind_some, st_ofNat _ _ (by omega) (by omega), Option.bind_some, st_ofNat _ _ (by omega) (by omega), Option.bind_some]
    cases hl : ls t with
    | nil =>
      rw [hl] at hd hpv
      simp only [hdI, setHd] at hd hpv
      rw [hd, if_pos (by decide)]
      simp only [gA_sA]
      rw [if_neg (by decide), if_neg (by decide), if_neg (by decide), if_neg (by decide), st_ofNat _ _ (by omega) (by omega), Option.bind_some, st_ofNat _ _ (by omega) (by omega), Option.bind_some, hs', hpv, hd]
    | cons y r =>
      rw [hl] at hd hpv c
      simp only [hdI, setHd] at hd hpv
      have hy := c.2.1
      rw [hd, if_neg (ofNat_nonneg (by omega)), if_pos ((lt_lit (by omega)).mpr hy), st_ofNat _ _ (by omega) (by simp [l6]; omega), Option.bind_some]
      simp only [gA_sA]
      rw [if_neg (by decide), if_neg (by decide), if_neg (by decide), if_neg (by decide), if_neg (by decide), if_neg (by decide), st_ofNat _ _ (by omega) (by omega), Option.bind_some, st_ofNat _ _ (by omega) (by omega), Option.bind_some, hs', hpv, hd]
      rw [sA_comm _ (show (5 : Nat) ≠ 6 by decide), sA_same]
  · intro z hz
    rw [a3]
    unfold aupd
    by_cases q : z = x
    · subst q; rw [if_pos rfl, List.getElem?_set_self (by omega)]; rfl
    · rw [if_neg q, List.getElem?_set_ne (by omega)]; exact P z hz
  · intro f hf
    rw [a4, a5, a6]
    unfold aupd
    by_cases q : f = t
    · subst q
      rw [if_pos rfl, List.getElem?_set_self (by omega)]
      exact ⟨_, rfl, c'⟩
    · rw [if_neg q, List.getElem?_set_ne (by omega)]
      obtain ⟨h', e', k'⟩ := M f hf
      refine ⟨h', e', k'.congr fun z hz => ⟨?_, ?_⟩⟩
      · rw [List.getElem?_set_ne (fun e => hn f hf (by rw [e]; exact hz))]
      · rw [hpv]
        cases hl : ls t with
        | nil => simp only [setHd]; rw [List.getElem?_set_ne (fun e => hn f hf (by rw [e]; exact hz))]
        | cons y r =>
          simp only [setHd]
          rw [List.getElem?_set_ne (fun e => q (D.2 f t z hf ht hz (by rw [hl, ← e]; exact List.mem_cons_self ..))), List.getElem?_set_ne (fun e => hn f hf (by rw [e]; exact hz))]
theorem unlink_ok {NF : Nat} {NP : Nat} {s : S} {pf : Nat → Option Nat} {ls : Nat → List Nat} (G : Geo NF NP s) (P : RP s pf) (M : RM NF NP s ls) (D : Dj NF NP ls) {x t : Nat} {l1 l2 : List Nat} (hx : x < 64) (ht : t < NF) (hp : pf x = some t) (hl : ls t = l1 ++ x :: l2) : ∃ s', k_rmapUnlink (Int32.ofNat x) s = some (Int32.ofNat t, s') ∧ Fx [] [] [3, 4, 5, 6] [] s s' ∧ Geo NF NP s' ∧ RP s' (aupd pf x none) ∧ RM NF NP s' (aupd ls t (l1 ++ l2)) := by
  obtain ⟨g0, g1, l0, k1, k2, l3, l4, l5, l6, l7, g6⟩ := id G
  obtain ⟨h, e4, c⟩ := M t ht
  have nd := D.1 t ht
  rw [hl] at c nd
  obtain ⟨n, en, ep, cr⟩ := c.find
  have hn := cr.head
  have F0 : Fx [] [] [3, 4, 5, 6] [] s s := Fx.refl ..
  have cu := Ch.unlink l5 l6 c nd en
  have lts : ∀ y ∈ l1 ++ x :: l2, y < 64 := c.lt
  have xl : x ∉ l1 ++ l2 := fun q => by
    rw [List.nodup_append] at nd
    rcases List.mem_append.mp q with q | q
    · exact nd.2.2 x q x (List.mem_cons_self ..) rfl
    · exact (List.nodup_cons.mp nd.2.1).1 q
  have e3 : (gA s 3)[x]? = some (Int32.ofNat t) := by rw [P x hx, hp]; rfl
  obtain ⟨A4, hA4⟩ : ∃ A, A = (match l1 with | [] => (gA s 4).set t n | _ :: _ => gA s 4) := ⟨_, rfl⟩
  obtain ⟨A5, hA5⟩ : ∃ A, A = setLast (gA s 5) n l1.getLast? := ⟨_, rfl⟩
  obtain ⟨A6, hA6⟩ : ∃ A, A = setHd (gA s 6) (lastI (-1) l1.getLast?) l2 := ⟨_, rfl⟩
  have m4 : A4.length = 64 := by rw [hA4]; split <;> simp [l4]
  have m5 : A5.length = 64 := by rw [hA5]; cases l1.getLast? <;> simp [setLast, l5]
  have m6 : A6.length = 64 := by rw [hA6]; cases l2 <;> simp [setHd, l6]
  -- the last rows
  have last : ∀ (u : S) (v : Int32), gA u 6 = A6 → gA u 5 = A5 → gA u 3 = gA s 3 → k_rmapUnlink_95 (Int32.ofNat x) v u = some (v, sA (sA (sA u 6 (A6.set x (-1))) 5 (A5.set x (-1))) 3 ((gA s 3).set x (-1))) := fun u v h6 h5 h3 => by
    unfold k_rmapUnlink_95
    rw [h6, h5, h3, st_ofNat _ _ (by omega) (by omega), Option.bind_some, st_ofNat _ _ (by omega) (by omega), Option.bind_some, st_ofNat _ _ (by omega) (by omega), Option.bind_some]
  have mid : ∀ (u : S), gA u 6 = gA s 6 → gA u 5 = A5 → gA u 3 = gA s 3 → gA u 4 = A4 → Fx [] [] [3, 4, 5, 6] [] s u → ∃ s', k_rmapUnlink_75 (Int32.ofNat x) (Int32.ofNat t) (lastI (-1) l1.getLast?) n u = some (Int32.ofNat t, s') ∧ Fx [] [] [3, 4, 5, 6] [] s s' ∧ gA s' 3 = (gA s 3).set x (-1) ∧ gA s' 4 = A4 ∧ gA s' 5 = A5.set x (-1) ∧ gA s' 6 = A6.set x (-1) := fun u h6 h5 h3 h4 F => by
    unfold k_rmapUnlink_75
    cases hq : l2 with
    | nil =>
      rw [hq] at hn hA6
      simp only [hdI] at hn
      simp only [setHd] at hA6
      rw [hn, if_pos (by decide), last u _ (by rw [h6, hA6]) h5 h3]
      exact ⟨_, rfl, ((F.sA (by simp)).sA (by simp)).sA (by simp), by simp [gA_sA], by simp [gA_sA, h4], by simp [gA_sA], by simp [gA_sA]⟩
    | cons z r =>
      rw [hq] at hn hA6
      simp only [hdI] at hn
      simp only [setHd] at hA6
      have hz : z < 64 := lts z (by rw [hq]; simp)
      rw [hn, if_neg (ofNat_nonneg (by omega)), if_pos ((lt_lit (by omega)).mpr hz), h6, st_ofNat _ _ (by omega) (by omega), Option.bind_some, last _ _ (by rw [gA_sA, if_pos rfl, hA6]) (by rw [gA_sA, if_neg (by decide), h5]) (by rw [gA_sA, if_neg (by decide), h3])]
      exact ⟨_, rfl, (((F.sA (by simp)).sA (by simp)).sA (by simp)).sA (by simp), by simp [gA_sA], by simp [gA_sA, h4], by simp [gA_sA], by simp [gA_sA]⟩
  have go : ∃ s', k_rmapUnlink (Int32.ofNat x) s = some (Int32.ofNat t, s') ∧ Fx [] [] [3, 4, 5, 6] [] s s' ∧ gA s' 3 = (gA s 3).set x (-1) ∧ gA s' 4 = A4 ∧ gA s' 5 = A5.set x (-1) ∧ gA s' 6 = A6.set x (-1) := by
    unfold k_rmapUnlink
    rw [if_neg (ofNat_nonneg (by omega)), if_pos ((lt_lit (by omega)).mpr hx), ix_ofNat _ (by omega), e3, Option.bind_some, if_neg (ofNat_nonneg (by omega)), if_pos ((lt_lit (by omega)).mpr (show t < 64 by omega)), ix_ofNat _ (by omega), ep, Option.bind_some, ix_ofNat _ (by omega), en, Option.bind_some]
    cases hq : l1 with
    | nil =>
      rw [hq] at hA4 hA5 mid
      dsimp only at hA4
      change A5 = gA s 5 at hA5
      show ∃ s', (if (-1 : Int32) < 0 then k_rmapUnlink_67 (Int32.ofNat x) (Int32.ofNat t) (-1) n s else _) = _ ∧ _
      rw [if_pos (by decide)]
      unfold k_rmapUnlink_67
      rw [st_ofNat _ _ (by omega) (by omega), Option.bind_some]
      exact mid _ (by simp [gA_sA]) (by simp [gA_sA, hA5]) (by simp [gA_sA]) (by simp [gA_sA, hA4]) (F0.sA (by simp))
    | cons y r =>
      have hlast : ∃ w, l1.getLast? = some w ∧ w ∈ l1 := by
        cases e : l1.getLast? with
        | none => rw [hq] at e; simp at e
        | some w => exact ⟨w, rfl, List.mem_of_getLast? e⟩
      obtain ⟨w, ew, hw⟩ := hlast
      have hw64 : w < 64 := lts w (List.mem_append_left _ hw)
      rw [← hq]
      rw [ew] at hA5 mid ⊢
      change A5 = (gA s 5).set w n at hA5
      show ∃ s', (if Int32.ofNat w < 0 then _ else if Int32.ofNat w < 64 then (Jvm.AM.st (gA s 5) (Int32.ofNat w) n).bind fun a63 => k_rmapUnlink_75 (Int32.ofNat x) (Int32.ofNat t) (Int32.ofNat w) n (sA s 5 a63) else _) = _ ∧ _
      rw [hq] at hA4
      dsimp only at hA4
      rw [if_neg (ofNat_nonneg (by omega)), if_pos ((lt_lit (by omega)).mpr hw64), st_ofNat _ _ (by omega) (by omega), Option.bind_some]
      exact mid _ (by simp [gA_sA]) (by simp [gA_sA, hA5]) (by simp [gA_sA]) (by simp [gA_sA, hA4]) (F0.sA (by simp))
  obtain ⟨s', es, F, a3, a4, a5, a6⟩ := go
  refine ⟨s', es, F, G.same (F.mono (by simp) (by simp) (by simp) (by simp)) (by rw [F.2.2.1 1 (by simp)]; exact k1) (by rw [F.2.2.1 2 (by simp)]; exact k2) (by rw [a3, List.length_set]; exact l3) (by rw [a4]; exact m4) (by rw [a5, List.length_set]; exact m5) (by rw [a6, List.length_set]; exact m6), ?_, ?_⟩
  · intro z hz
    rw [a3]
    unfold aupd
    by_cases q : z = x
    · subst q; rw [if_pos rfl, List.getElem?_set_self (by omega)]; rfl
    · rw [if_neg q, List.getElem?_set_ne (by omega)]; exact P z hz
  · intro f hf
    rw [a4, a5, a6]
    unfold aupd
    by_cases q : f = t
    · subst q
      rw [if_pos rfl]
      refine ⟨hdOr n h l1, ?_, ?_⟩
      · rw [hA4]
        cases l1 with
        | nil => simp only [hdOr]; rw [List.getElem?_set_self (by omega)]
        | cons y r => simp only [hdOr]; exact e4
      · rw [← hA5, ← hA6] at cu
        exact cu.congr fun z hz => ⟨by rw [List.getElem?_set_ne (fun e => xl (by rw [e]; exact hz))], by rw [List.getElem?_set_ne (fun e => xl (by rw [e]; exact hz))]⟩
    · rw [if_neg q]
      obtain ⟨h', e', c'⟩ := M f hf
      have dj : ∀ z ∈ ls f, z ∉ l1 ++ x :: l2 := fun z hz hz' => q (D.2 f t z hf ht hz (by rw [hl]; exact hz'))
      refine ⟨h', ?_, c'.congr fun z hz => ?_⟩
      · rw [hA4]
        cases l1 with
        | nil => dsimp only; rw [List.getElem?_set_ne (by omega)]; exact e'
        | cons y r => exact e'
      · have z1 : z ≠ x := fun e => dj z hz (by rw [e]; simp)
        refine ⟨?_, ?_⟩
        · rw [List.getElem?_set_ne z1.symm, hA5]
          cases e : l1.getLast? with
          | none => rfl
          | some w =>
            simp only [setLast]
            rw [List.getElem?_set_ne (fun e2 => dj z hz (by rw [← e2]; exact List.mem_append_left _ (List.mem_of_getLast? e)))]
        · rw [List.getElem?_set_ne z1.symm, hA6]
          cases e : l2 with
          | nil => rfl
          | cons w r =>
            simp only [setHd]
            rw [List.getElem?_set_ne (fun e2 => dj z hz (by rw [← e2, e]; simp))]
def setAll (v : Int32) : List Nat → List Int32 → List Int32
  | [], A => A
  | x :: r, A => setAll v r (A.set x v)
theorem setAll_len (v : Int32) : ∀ (l : List Nat) (A : List Int32), (setAll v l A).length = A.length
  | [], _ => rfl
  | x :: r, A => by simp [setAll, setAll_len v r]
theorem setAll_get (v : Int32) : ∀ (l : List Nat) (A : List Int32) (z : Nat), z < A.length → (setAll v l A)[z]? = if z ∈ l then some v else A[z]?
  | [], A, z, _ => by simp [setAll]
  | x :: r, A, z, hz => by
    simp only [setAll]
    rw [setAll_get v r _ z (by simpa using hz)]
    by_cases q : z ∈ r
    · rw [if_pos q, if_pos (List.mem_cons_of_mem _ q)]
    · rw [if_neg q]
      by_cases e : z = x
      · subst e; rw [List.getElem?_set_self hz, if_pos (List.mem_cons_self ..)]
      · rw [List.getElem?_set_ne (Ne.symm e), if_neg (fun h => (List.mem_cons.mp h).elim e q)]
theorem transfer_loop (v1 v2 : Int32) : ∀ (l : List Nat) (n i : Nat) (p h : Int32) (s : S), Ch (gA s 5) (gA s 6) p h l → (gA s 3).length = 64 → i + l.length ≤ 64 → l.length < n → k_rmapTransfer_10 n v1 v2 h (Int32.ofNat i) s = k_rmapTransfer_47 v1 v2 (sA s 3 (setAll v2 l (gA s 3)))
  | [], 0, i, p, h, s, c, l3, hi, hn => absurd hn (by simp)
  | [], n + 1, i, p, h, s, c, l3, hi, hn => by
    have e : sA s 3 (setAll v2 [] (gA s 3)) = s := by
      simp only [setAll]
      unfold Jvm.AM.sA gA
      have : aupd s.2.2.1 3 (s.2.2.1 3) = s.2.2.1 := by funext x; unfold aupd; by_cases q : x = 3 <;> simp [q]
      rw [this]
    rw [k_rmapTransfer_10, e]
    have hh : h = -1 := c
    rw [hh, if_pos (show (-1 : Int32) < 0 by decide)]
    split <;> rfl
  | x :: r, 0, i, p, h, s, c, l3, hi, hn => absurd hn (by simp)
  | x :: r, n + 1, i, p, h, s, c, l3, hi, hn => by
    obtain ⟨c1, c2, c3, m, c4, c5⟩ := c
    simp only [List.length_cons] at hi hn
    rw [k_rmapTransfer_10, if_pos ((lt_lit (by omega)).mpr (show i < 64 by omega)), c1, if_neg (ofNat_nonneg (by omega)), if_pos ((lt_lit (by omega)).mpr c2), st_ofNat _ _ (by omega) (by omega), Option.bind_some, ix_ofNat _ (by omega), c4, Option.bind_some, ofNat_succ]
    rw [transfer_loop v1 v2 r n (i + 1) (Int32.ofNat x) m (sA s 3 ((gA s 3).set x v2)) (by rw [gA_sA, if_neg (by decide), gA_sA, if_neg (by decide)]; exact c5) (by rw [gA_sA, if_pos rfl, List.length_set]; exact l3) (by omega) (by omega)]
    rw [sA_same, gA_sA, if_pos rfl]; rfl
theorem nodup_len {l : List Nat} (nd : l.Nodup) {n : Nat} (h : ∀ x ∈ l, x < n) : l.length ≤ n := by
  have := List.Nodup.length_le_of_subset nd (l₂ := List.range n) (fun x hx => List.mem_range.mpr (h x hx))
  simpa using this
theorem transfer_ok {NF : Nat} {NP : Nat} {s : S} {pf : Nat → Option Nat} {ls : Nat → List Nat} (G : Geo NF NP s) (P : RP s pf) (M : RM NF NP s ls) (D : Dj NF NP ls) {f g : Nat} (hf : f < NF) (hg : g < NF) (hne : f ≠ g) (hgl : ls g = []) : ∃ s', k_rmapTransfer (Int32.ofNat f) (Int32.ofNat g) s = some s' ∧ Fx [] [] [3, 4] [] s s' ∧ Geo NF NP s' ∧ RP s' (fun x => if x ∈ ls f then some g else pf x) ∧ RM NF NP s' (aupd (aupd ls g (ls f)) f []) := by
  obtain ⟨g0, g1, l0, k1, k2, l3, l4, l5, l6, l7, g6⟩ := id G
  obtain ⟨h, e4, c⟩ := M f hf
  have hlen := nodup_len (D.1 f hf) c.lt
  have F0 : Fx [] [] [3, 4] [] s s := Fx.refl ..
  obtain ⟨s', hs'⟩ : ∃ s', s' = sA (sA s 3 (setAll (Int32.ofNat g) (ls f) (gA s 3))) 4 (((gA s 4).set g h).set f (-1)) := ⟨_, rfl⟩
  have F : Fx [] [] [3, 4] [] s s' := by rw [hs']; exact (F0.sA (by simp)).sA (by simp)
  have a3 : gA s' 3 = setAll (Int32.ofNat g) (ls f) (gA s 3) := by rw [hs']; simp [gA_sA]
  have a4 : gA s' 4 = ((gA s 4).set g h).set f (-1) := by rw [hs']; simp [gA_sA]
  have a5 : gA s' 5 = gA s 5 := F.2.2.1 5 (by simp)
  have a6 : gA s' 6 = gA s 6 := F.2.2.1 6 (by simp)
  refine ⟨s', ?_, F, G.same (F.mono (by simp) (by simp) (by simp) (by simp)) (by rw [F.2.2.1 1 (by simp)]; exact k1) (by rw [F.2.2.1 2 (by simp)]; exact k2) (by rw [a3, setAll_len]; exact l3) (by rw [a4]; simp [l4]) (by rw [a5]; exact l5) (by rw [a6]; exact l6), ?_, ?_⟩
  · unfold k_rmapTransfer
    rw [ix_ofNat _ (by omega), e4, Option.bind_some, show (0 : Int32) = Int32.ofNat 0 from rfl, transfer_loop _ _ (ls f) BIG 0 (-1) h s c l3 (by omega) (by unfold BIG; omega)]
    unfold k_rmapTransfer_47
    rw [gA_sA, if_neg (by decide), ix_ofNat _ (by omega), e4, Option.bind_some, st_ofNat _ _ (by omega) (by omega), Option.bind_some, st_ofNat _ _ (by omega) (by simp; omega), Option.bind_some, sA_same, hs']
  · intro x hx
    rw [a3, setAll_get _ _ _ _ (by omega)]
    dsimp only
    by_cases q : x ∈ ls f
    · rw [if_pos q, if_pos q]; rfl
    · rw [if_neg q, if_neg q]; exact P x hx
  · intro k hk
    rw [a4, a5, a6]
    unfold aupd
    by_cases q : k = f
    · subst q
      rw [if_pos rfl, List.getElem?_set_self (by simp; omega)]
      exact ⟨-1, rfl, rfl⟩
    · rw [if_neg q, List.getElem?_set_ne (by omega)]
      by_cases r : k = g
      · subst r
        rw [if_pos rfl, List.getElem?_set_self (by omega)]
        exact ⟨h, rfl, c⟩
      · rw [if_neg r, List.getElem?_set_ne (by omega)]
        exact M k hk
theorem attach_ok {NF : Nat} {NP : Nat} {s : S} {pf : Nat → Option Nat} {ls : Nat → List Nat} {c : Nat → Nat} (G : Geo NF NP s) (C : RC NF NP s c) (P : RP s pf) (M : RM NF NP s ls) (D : Dj NF NP ls) {x t : Nat} (hx : x < 64) (ht : t < NF) (hn : ∀ f, f < NF → x ∉ ls f) : ∃ s', k_attachPage (Int32.ofNat x) (Int32.ofNat t) s = some s' ∧ Fx [] [] [2, 3, 4, 5, 6] [] s s' ∧ Geo NF NP s' ∧ RC NF NP s' (aupd c t (c t + 1)) ∧ RP s' (aupd pf x (some t)) ∧ RM NF NP s' (aupd ls t (x :: ls t)) := by
  obtain ⟨u, eu, F, Gu, Pu, Mu⟩ := link_ok G P M D hx ht hn
  obtain ⟨g0, g1, l0, k1, k2, l3, l4, l5, l6, l7, g6⟩ := id Gu
  have u2 : gA u 2 = gA s 2 := F.2.2.1 2 (by simp)
  have hc : (gA u 2)[t]? = some (Int32.ofNat (c t)) := by rw [u2]; exact C t ht
  have F' : Fx [] [] [2, 3, 4, 5, 6] [] s u := F.mono (by simp) (by simp) (by simp) (by simp)
  obtain ⟨v, hv⟩ : ∃ v, v = sA u 2 ((gA u 2).set t (Int32.ofNat (c t + 1))) := ⟨_, rfl⟩
  have A : ∀ f, f ≠ 2 → gA v f = gA u f := fun f hf => by rw [hv, gA_sA, if_neg hf]
  have A2 : gA v 2 = (gA u 2).set t (Int32.ofNat (c t + 1)) := by rw [hv, gA_sA, if_pos rfl]
  have Fv : Fx [] [] [1, 2, 3, 4, 5, 6] [] u v := by
    have F0 : Fx [] [] [1, 2, 3, 4, 5, 6] [] u u := Fx.refl ..
    rw [hv]; exact F0.sA (by simp)
  refine ⟨v, ?_, by rw [hv]; exact F'.sA (by simp), Gu.same Fv (by rw [A 1 (by decide)]; exact k1) (by rw [A2, List.length_set]; exact k2) (by rw [A 3 (by decide)]; exact l3) (by rw [A 4 (by decide)]; exact l4) (by rw [A 5 (by decide)]; exact l5) (by rw [A 6 (by decide)]; exact l6), ?_, ?_, ?_⟩
  · unfold k_attachPage
    rw [if_neg (ofNat_nonneg (by omega)), if_pos ((lt_lit (by omega)).mpr hx), inr_yes G.1 ht (by omega), if_neg (by decide), eu, Option.bind_some, ix_ofNat _ (by omega), hc, Option.bind_some, ofNat_succ, st_ofNat _ _ (by omega) (by omega), Option.bind_some, hv]
  · intro f hf
    rw [A2]
    unfold aupd
    by_cases q : f = t
    · subst q; rw [if_pos rfl, List.getElem?_set_self (by omega)]
    · rw [if_neg q, List.getElem?_set_ne (by omega), u2]; exact C f hf
  · intro z hz; rw [A 3 (by decide)]; exact Pu z hz
  · intro f hf; rw [A 4 (by decide), A 5 (by decide), A 6 (by decide)]; exact Mu f hf
theorem detach_ok {NF : Nat} {NP : Nat} {s : S} {pf : Nat → Option Nat} {ls : Nat → List Nat} {c : Nat → Nat} (G : Geo NF NP s) (C : RC NF NP s c) (P : RP s pf) (M : RM NF NP s ls) (D : Dj NF NP ls) {x t : Nat} {l1 l2 : List Nat} (hx : x < 64) (ht : t < NF) (hp : pf x = some t) (hl : ls t = l1 ++ x :: l2) (hc0 : 0 < c t) : ∃ s', k_detachPage (Int32.ofNat x) s = some (Int32.ofNat t, s') ∧ Fx [] [] [2, 3, 4, 5, 6] [] s s' ∧ Geo NF NP s' ∧ RC NF NP s' (aupd c t (c t - 1)) ∧ RP s' (aupd pf x none) ∧ RM NF NP s' (aupd ls t (l1 ++ l2)) := by
  obtain ⟨u, eu, F, Gu, Pu, Mu⟩ := unlink_ok G P M D hx ht hp hl
  obtain ⟨g0, g1, l0, k1, k2, l3, l4, l5, l6, l7, g6⟩ := id Gu
  have u2 : gA u 2 = gA s 2 := F.2.2.1 2 (by simp)
  have hc : (gA u 2)[t]? = some (Int32.ofNat (c t)) := by rw [u2]; exact C t ht
  have F' : Fx [] [] [2, 3, 4, 5, 6] [] s u := F.mono (by simp) (by simp) (by simp) (by simp)
  obtain ⟨v, hv⟩ : ∃ v, v = sA u 2 ((gA u 2).set t (Int32.ofNat (c t - 1))) := ⟨_, rfl⟩
  have A : ∀ f, f ≠ 2 → gA v f = gA u f := fun f hf => by rw [hv, gA_sA, if_neg hf]
  have A2 : gA v 2 = (gA u 2).set t (Int32.ofNat (c t - 1)) := by rw [hv, gA_sA, if_pos rfl]
  have Fv : Fx [] [] [1, 2, 3, 4, 5, 6] [] u v := by
    have F0 : Fx [] [] [1, 2, 3, 4, 5, 6] [] u u := Fx.refl ..
    rw [hv]; exact F0.sA (by simp)
  have sub1 : Int32.ofNat (c t) - 1 = Int32.ofNat (c t - 1) := by
    obtain ⟨m, hm⟩ : ∃ m, c t = m + 1 := ⟨c t - 1, by omega⟩
    rw [hm, ← ofNat_succ, Int32.add_sub_cancel]; rfl
  refine ⟨v, ?_, by rw [hv]; exact F'.sA (by simp), Gu.same Fv (by rw [A 1 (by decide)]; exact k1) (by rw [A2, List.length_set]; exact k2) (by rw [A 3 (by decide)]; exact l3) (by rw [A 4 (by decide)]; exact l4) (by rw [A 5 (by decide)]; exact l5) (by rw [A 6 (by decide)]; exact l6), ?_, ?_, ?_⟩
  · unfold k_detachPage
    rw [eu, Option.bind_some]
    dsimp only
    rw [inr_yes g0 ht (by omega), if_neg (by decide), ix_ofNat _ (by omega), hc, Option.bind_some, sub1, st_ofNat _ _ (by omega) (by omega), Option.bind_some, hv]
  · intro f hf
    rw [A2]
    unfold aupd
    by_cases q : f = t
    · subst q; rw [if_pos rfl, List.getElem?_set_self (by omega)]
    · rw [if_neg q, List.getElem?_set_ne (by omega), u2]; exact C f hf
  · intro z hz; rw [A 3 (by decide)]; exact Pu z hz
  · intro f hf; rw [A 4 (by decide), A 5 (by decide), A 6 (by decide)]; exact Mu f hf
/-- what freeFrame and reserveFrame write ahead of the state -/
theorem wipe_ok {NF : Nat} {NP : Nat} {s : S} {st : Nat → Nat} {val : Nat → Int32} {c : Nat → Nat} {ls : Nat → List Nat} {pf : Nat → Option Nat} (G : Geo NF NP s) (R : RS NF NP s st) (V : RV NF NP s val) (C : RC NF NP s c) (P : RP s pf) (M : RM NF NP s ls) {f x : Nat} (hf : f < NF) (hx : x ≤ 3) (hl : ls f = []) : ∃ t s', t = sA (sA (sA s 1 ((gA s 1).set f 0)) 2 ((gA s 2).set f 0)) 4 ((gA s 4).set f (-1)) ∧ k_enterState (Int32.ofNat f) (Int32.ofNat x) t = some s' ∧ Fx [6] [2, 3, 4, 5] [0, 1, 2, 4] [] s s' ∧ Geo NF NP s' ∧ RS NF NP s' (aupd st f x) ∧ RV NF NP s' (aupd val f 0) ∧ RC NF NP s' (aupd c f 0) ∧ RP s' pf ∧ RM NF NP s' ls := by
  obtain ⟨g0, g1, l0, k1, k2, l3, l4, l5, l6, l7, g6⟩ := id G
  obtain ⟨t, ht⟩ : ∃ t, t = sA (sA (sA s 1 ((gA s 1).set f 0)) 2 ((gA s 2).set f 0)) 4 ((gA s 4).set f (-1)) := ⟨_, rfl⟩
  have F0 : Fx [] [] [1, 2, 3, 4, 5, 6] [] s s := Fx.refl ..
  have Ft : Fx [] [] [1, 2, 3, 4, 5, 6] [] s t := by rw [ht]; exact ((F0.sA (by simp)).sA (by simp)).sA (by simp)
  have F1 : Fx [6] [2, 3, 4, 5] [0, 1, 2, 4] [] s t := by
    have F1 : Fx [6] [2, 3, 4, 5] [0, 1, 2, 4] [] s s := Fx.refl ..
    rw [ht]; exact ((F1.sA (by simp)).sA (by simp)).sA (by simp)
  have t1 : gA t 1 = (gA s 1).set f 0 := by rw [ht]; simp [gA_sA]
  have t2 : gA t 2 = (gA s 2).set f 0 := by rw [ht]; simp [gA_sA]
  have t4 : gA t 4 = (gA s 4).set f (-1) := by rw [ht]; simp [gA_sA]
  have t3 : gA t 3 = gA s 3 := by rw [ht]; simp [gA_sA]
  have t5 : gA t 5 = gA s 5 := by rw [ht]; simp [gA_sA]
  have t6 : gA t 6 = gA s 6 := by rw [ht]; simp [gA_sA]
  have t0 : gA t 0 = gA s 0 := by rw [ht]; simp [gA_sA]
  have Gt : Geo NF NP t := G.same Ft (by rw [t1, List.length_set]; exact k1) (by rw [t2, List.length_set]; exact k2) (by rw [t3]; exact l3) (by rw [t4, List.length_set]; exact l4) (by rw [t5]; exact l5) (by rw [t6]; exact l6)
  have Rt : RS NF NP t st := by
    obtain ⟨r1, r2, r3, r4⟩ := R
    exact ⟨by rw [t0]; exact r1, by rw [Ft.2.1 2 (by simp)]; exact r2, by rw [Ft.2.1 3 (by simp)]; exact r3, by rw [Ft.1 6 (by simp), Ft.2.2.2 7 (by simp), Ft.2.1 2 (by simp)]; exact r4⟩
  obtain ⟨s', e, F, G', R'⟩ := enter_ok Gt Rt hf hx
  have A : ∀ k, k ≠ 0 → gA s' k = gA t k := fun k hk => F.2.2.1 k (by simpa using hk)
  refine ⟨t, s', ht, e, F1.trans (F.mono (by simp) (by simp) (by simp) (by simp)), G', R', ?_, ?_, ?_, ?_⟩
  · intro k hk
    rw [A 1 (by decide), t1]
    unfold aupd
    by_cases q : k = f
    · subst q; rw [if_pos rfl, List.getElem?_set_self (by omega)]
    · rw [if_neg q, List.getElem?_set_ne (by omega)]; exact V k hk
  · intro k hk
    rw [A 2 (by decide), t2]
    unfold aupd
    by_cases q : k = f
    · subst q; rw [if_pos rfl, List.getElem?_set_self (by omega)]; rfl
    · rw [if_neg q, List.getElem?_set_ne (by omega)]; exact C k hk
  · intro z hz; rw [A 3 (by decide), t3]; exact P z hz
  · intro k hk
    rw [A 4 (by decide), A 5 (by decide), A 6 (by decide), t4, t5, t6]
    by_cases q : k = f
    · subst q
      rw [List.getElem?_set_self (by omega), hl]
      exact ⟨-1, rfl, rfl⟩
    · rw [List.getElem?_set_ne (by omega)]; exact M k hk
theorem free_ok {NF : Nat} {NP : Nat} {s : S} {st : Nat → Nat} {val : Nat → Int32} {c : Nat → Nat} {ls : Nat → List Nat} {pf : Nat → Option Nat} (G : Geo NF NP s) (R : RS NF NP s st) (V : RV NF NP s val) (C : RC NF NP s c) (P : RP s pf) (M : RM NF NP s ls) {f : Nat} (hf : f < NF) (hl : ls f = []) : ∃ s', k_freeFrame (Int32.ofNat f) s = some s' ∧ Fx [6] [2, 3, 4, 5] [0, 1, 2, 4] [] s s' ∧ Geo NF NP s' ∧ RS NF NP s' (aupd st f 0) ∧ RV NF NP s' (aupd val f 0) ∧ RC NF NP s' (aupd c f 0) ∧ RP s' pf ∧ RM NF NP s' ls := by
  obtain ⟨g0, g1, l0, k1, k2, l3, l4, l5, l6, l7, g6⟩ := id G
  obtain ⟨t, s', ht, e, r⟩ := wipe_ok G R V C P M hf (x := 0) (by omega) hl
  refine ⟨s', ?_, r⟩
  unfold k_freeFrame
  rw [inr_yes g0 hf (by omega), if_neg (by decide), st_ofNat _ _ (by omega) (by omega), Option.bind_some, st_ofNat _ _ (by omega) (by omega), Option.bind_some, st_ofNat _ _ (by omega) (by omega), Option.bind_some, ← ht, show (0 : Int32) = Int32.ofNat 0 from rfl, e, Option.bind_some]
theorem reserve_ok {NF : Nat} {NP : Nat} {s : S} {st : Nat → Nat} {val : Nat → Int32} {c : Nat → Nat} {ls : Nat → List Nat} {pf : Nat → Option Nat} (G : Geo NF NP s) (R : RS NF NP s st) (V : RV NF NP s val) (C : RC NF NP s c) (P : RP s pf) (M : RM NF NP s ls) {f : Nat} (hf : f < NF) (hl : ls f = []) : ∃ s', k_reserveFrame (Int32.ofNat f) s = some s' ∧ Fx [6] [2, 3, 4, 5] [0, 1, 2, 4] [] s s' ∧ Geo NF NP s' ∧ RS NF NP s' (aupd st f 3) ∧ RV NF NP s' (aupd val f 0) ∧ RC NF NP s' (aupd c f 0) ∧ RP s' pf ∧ RM NF NP s' ls := by
  obtain ⟨g0, g1, l0, k1, k2, l3, l4, l5, l6, l7, g6⟩ := id G
  obtain ⟨t, s', ht, e, r⟩ := wipe_ok G R V C P M hf (x := 3) (by omega) hl
  refine ⟨s', ?_, r⟩
  unfold k_reserveFrame
  rw [inr_yes g0 hf (by omega), if_neg (by decide), st_ofNat _ _ (by omega) (by omega), Option.bind_some, st_ofNat _ _ (by omega) (by omega), Option.bind_some, st_ofNat _ _ (by omega) (by omega), Option.bind_some, ← ht, show (3 : Int32) = Int32.ofNat 3 from rfl, e, Option.bind_some]
abbrev Abs : Type := (Nat → Nat) × (Nat → Int32) × (Nat → Option Nat)
def Con (NF NP : Nat) (a : Abs) (c : Nat → Nat) (ls : Nat → List Nat) : Prop := Dj NF NP ls ∧ (∀ f, f < NF → c f = (ls f).length) ∧ (∀ f x, f < NF → (x ∈ ls f ↔ a.2.2 x = some f)) ∧ (∀ x f, a.2.2 x = some f → f < NF ∧ x < 64 ∧ x % 16 < NP) ∧ (∀ f, f < NF → (0 < c f ↔ (a.1 f = 1 ∨ a.1 f = 2))) ∧ (∀ f, f < NF → (a.1 f = 0 ∨ a.1 f = 3) → a.2.1 f = 0)
/-- the compactor s shows the abstract state a -/
def R (NF NP : Nat) (s : S) (a : Abs) : Prop := ∃ c ls, Geo NF NP s ∧ RS NF NP s a.1 ∧ RV NF NP s a.2.1 ∧ RC NF NP s c ∧ RP s a.2.2 ∧ RM NF NP s ls ∧ Con NF NP a c ls
def aSlot (NF NP : Nat) (v1 v2 : Int32) : Option Nat := if v1 < 0 then none else if v1 < 4 then (if v2 < 0 then none else if v2 < Int32.ofNat NP then some (v1.toNatClampNeg * 16 + v2.toNatClampNeg) else none) else none
theorem page_cases {NF : Nat} {NP : Nat} {s : S} (h : gI s 1 = Int32.ofNat NP) (h16 : NP ≤ 16) (v1 v2 : Int32) : (aSlot NF NP v1 v2 = none ∧ k_pageInRange v1 v2 s = 0) ∨ ∃ x, aSlot NF NP v1 v2 = some x ∧ x < 64 ∧ x % 16 < NP ∧ k_pageInRange v1 v2 s = 1 ∧ k_slotOf v1 v2 = Int32.ofNat x := by
  unfold aSlot k_pageInRange k_slotOf
  rw [h]
  by_cases q1 : v1 < 0
  · left; simp [q1]
  by_cases q2 : v1 < 4
  · by_cases q3 : v2 < 0
    · left; simp [q1, q2, q3]
    by_cases q4 : v2 < Int32.ofNat NP
    · right
      have c1 := clamp_lt (n := 4) q1 q2 (by omega)
      have c2 := clamp_lt (n := NP) q3 q4 (by omega)
      refine ⟨v1.toNatClampNeg * 16 + v2.toNatClampNeg, by simp [q1, q2, q3, q4], by omega, by omega, by simp [q1, q2, q3, q4], ?_⟩
      obtain ⟨p, hp⟩ : ∃ p, p = v1.toNatClampNeg := ⟨_, rfl⟩
      obtain ⟨r, hr⟩ : ∃ r, r = v2.toNatClampNeg := ⟨_, rfl⟩
      have e1 := (eq_ofNat q1).1
      have e2 := (eq_ofNat q3).1
      rw [← hp] at e1 ⊢
      rw [← hr] at e2 ⊢
      rw [e1, e2, show Int32.ofNat p * 16 = Int32.ofNat (p * 16) from (Int32.ofNat_mul p 16).symm, ofNat_add']
    · left; simp [q1, q2, q3, q4]
  · left; simp [q1, q2]
def lowFree (NF NP : Nat) (st : Nat → Nat) : Option Nat := (List.range NF).find? fun f => st f = 0
theorem lowFree_ok {NF : Nat} {NP : Nat} {w : Int64} (h64 : NF ≤ 64) {st : Nat → Nat} (b : ∀ f, f < 64 → bl w f = decide (f < NF ∧ st f = 0)) : (w = 0 ∧ lowFree NF NP st = none) ∨ ∃ f, ¬ w = 0 ∧ lowFree NF NP st = some f ∧ f < NF ∧ st f = 0 ∧ k_lowestBit w = Int32.ofNat f := by
  by_cases q : w = 0
  · left
    refine ⟨q, ?_⟩
    unfold lowFree
    rw [List.find?_eq_none]
    intro f hf
    have hf := List.mem_range.mp hf
    have := b f (by omega)
    rw [q, bl_zero] at this
    have := of_decide_eq_false this.symm
    simp
    exact fun z => this ⟨hf, z⟩
  · right
    obtain ⟨f, f64, e, bf, lf⟩ := low_ok q
    rw [b f f64, decide_eq_true_eq] at bf
    refine ⟨f, q, ?_, bf.1, bf.2, e⟩
    unfold lowFree
    rw [List.find?_range_eq_some]
    refine ⟨by simpa using bf.2, by simpa using bf.1, ?_⟩
    intro j hj
    have := lf j hj
    rw [b j (by omega)] at this
    have := of_decide_eq_false this
    simp
    exact fun z => this ⟨by omega, z⟩
theorem R.dims {NF : Nat} {NP : Nat} {s : S} {a : Abs} (h : R NF NP s a) : 8 ≤ NF ∧ NF ≤ 64 ∧ 4 ≤ NP ∧ NP ≤ 16 := by
  obtain ⟨c, ls, G, _⟩ := h
  exact G.dims
def aMapNew (NF NP : Nat) (a : Abs) (v1 v2 v : Int32) : Int32 × Abs := match aSlot NF NP v1 v2 with
  | none => (-1, a)
  | some x => match a.2.2 x with
    | some _ => (-2, a)
    | none => match lowFree NF NP a.1 with
      | none => (-4, a)
      | some f => (Int32.ofNat f, (aupd a.1 f 1, aupd a.2.1 f v, aupd a.2.2 x (some f)))
theorem con_map {NF : Nat} {NP : Nat} {a : Abs} {c : Nat → Nat} {ls : Nat → List Nat} (K : Con NF NP a c ls) {f x : Nat} (hf : f < NF) (hx : x < 64) (hx4 : x % 16 < NP) (hs : a.1 f = 0) (hp : a.2.2 x = none) (v : Int32) : Con NF NP (aupd a.1 f 1, aupd a.2.1 f v, aupd a.2.2 x (some f)) (aupd c f (c f + 1)) (aupd ls f (x :: ls f)) := by
  obtain ⟨D, k1, k2, k3, k4, k5⟩ := K
  have nx : ∀ g, g < NF → x ∉ ls g := fun g hg q => by rw [(k2 g x hg).mp q] at hp; cases hp
  refine ⟨⟨fun g hg => ?_, fun g g' y hg hg' q q' => ?_⟩, fun g hg => ?_, fun g y hg => ?_, fun y g q => ?_, fun g hg => ?_, fun g hg q => ?_⟩
  · unfold aupd
    by_cases e : g = f
    · rw [if_pos e]; exact List.nodup_cons.mpr ⟨nx f hf, D.1 f hf⟩
    · rw [if_neg e]; exact D.1 g hg
  · unfold aupd at q q'
    by_cases e : g = f
    · by_cases e' : g' = f
      · rw [e, e']
      · rw [if_pos e] at q; rw [if_neg e'] at q'
        rcases List.mem_cons.mp q with q | q
        · rw [q] at q'; exact absurd q' (nx g' hg')
        · rw [e]; exact D.2 f g' y hf hg' q q'
    · by_cases e' : g' = f
      · rw [if_neg e] at q; rw [if_pos e'] at q'
        rcases List.mem_cons.mp q' with q' | q'
        · rw [q'] at q; exact absurd q (nx g hg)
        · rw [e']; exact D.2 g f y hg hf q q'
      · rw [if_neg e] at q; rw [if_neg e'] at q'
        exact D.2 g g' y hg hg' q q'
  · unfold aupd
    by_cases e : g = f
    · rw [if_pos e, if_pos e, k1 f hf]; rfl
    · rw [if_neg e, if_neg e]; exact k1 g hg
  · dsimp only
    unfold aupd
    by_cases e : g = f
    · rw [if_pos e, List.mem_cons]
      by_cases r : y = x
      · simp [r, e]
      · rw [if_neg r, e]
        constructor
        · rintro (q | q)
          · exact absurd q r
          · exact (k2 f y hf).mp q
        · intro q; exact Or.inr ((k2 f y hf).mpr q)
    · rw [if_neg e]
      by_cases r : y = x
      · rw [if_pos r, r]
        constructor
        · intro q; exact absurd q (nx g hg)
        · intro q; exact absurd (Option.some.inj q).symm e
      · rw [if_neg r]; exact k2 g y hg
  · dsimp only at q
    unfold aupd at q
    by_cases r : y = x
    · rw [if_pos r] at q; cases q; rw [r]; exact ⟨hf, hx, hx4⟩
    · rw [if_neg r] at q; exact k3 y g q
  · dsimp only
    unfold aupd
    by_cases e : g = f
    · rw [if_pos e, if_pos e]; simp
    · rw [if_neg e, if_neg e]; exact k4 g hg
  · dsimp only at q ⊢
    unfold aupd at q ⊢
    by_cases e : g = f
    · rw [if_pos e] at q; omega
    · rw [if_neg e] at q ⊢; exact k5 g hg q
theorem upd_self {A : Type} (g : Nat → A) (f : Nat) : aupd g f (g f) = g := by
  funext x; unfold aupd; by_cases q : x = f <;> simp [q]
theorem mapNew_ok {NF : Nat} {NP : Nat} {s : S} {a : Abs} (h : R NF NP s a) (v1 v2 v : Int32) : ∃ s', k_mapNew v1 v2 v s = some ((aMapNew NF NP a v1 v2 v).1, s') ∧ R NF NP s' (aMapNew NF NP a v1 v2 v).2 := by
  have hN := h.dims
  obtain ⟨c, ls, G, RS', V, C, P, M, K⟩ := id h
  have hN := G.dims
  obtain ⟨g0, g1, l0, k1, k2, l3, l4, l5, l6, l7, g6⟩ := id G
  obtain ⟨D, q1, q2, q3, q4, q5⟩ := id K
  obtain ⟨r1, b2, _, _⟩ := id RS'
  rcases page_cases g1 (by omega) v1 v2 with ⟨n1, n2⟩ | ⟨x, n1, hx, hx4, n2, n3⟩
  · refine ⟨s, ?_, ?_⟩
    · unfold k_mapNew k_checkTarget aMapNew
      rw [n1, n2, if_pos rfl, Option.bind_some, if_neg (by decide)]
    · unfold aMapNew; rw [n1]; exact h
  have ct : k_checkTarget v1 v2 s = some (if pcode (a.2.2 x) < 0 then 0 else -2) := by
    unfold k_checkTarget
    rw [n2, if_neg (by decide), n3, ix_ofNat _ (by omega), P x hx, Option.bind_some]
    split <;> rfl
  cases hp : a.2.2 x with
  | some f =>
    have hf := (q3 x f hp).1
    have hneg : ¬ pcode (some f) < 0 := ofNat_nonneg (by omega)
    rw [hp, if_neg hneg] at ct
    refine ⟨s, ?_, ?_⟩
    · unfold k_mapNew aMapNew
      rw [ct, n1, Option.bind_some, if_neg (by decide)]
      dsimp only
      rw [hp]
    · unfold aMapNew; rw [n1]; dsimp only; rw [hp]; exact h
  | none =>
    rw [hp, if_pos (show pcode none < 0 by decide)] at ct
    rcases lowFree_ok (NP := NP) (by omega) b2 with ⟨z1, z2⟩ | ⟨f, z1, z2, z3, z4, z5⟩
    · refine ⟨s, ?_, ?_⟩
      · unfold k_mapNew aMapNew
        rw [ct, n1, Option.bind_some, if_pos rfl, if_pos z1]
        dsimp only
        rw [hp]
        dsimp only
        rw [z2]
      · unfold aMapNew; rw [n1]; dsimp only; rw [hp]; dsimp only; rw [z2]; exact h
    · have hc0 : c f = 0 := by
        rcases Nat.eq_zero_or_pos (c f) with q | q
        · exact q
        · have := (q4 f z3).mp q; omega
      obtain ⟨u, eu, Fu, Gu, Ru⟩ := enter_ok G RS' z3 (x := 1) (by omega)
      have uA : ∀ k, k ≠ 0 → gA u k = gA s k := fun k hk => Fu.2.2.1 k (by simpa using hk)
      obtain ⟨w, hw⟩ : ∃ w, w = sA (sA u 1 ((gA s 1).set f v)) 2 ((gA s 2).set f 0) := ⟨_, rfl⟩
      have wA : ∀ k, k ≠ 1 → k ≠ 2 → gA w k = gA u k := fun k a b => by rw [hw, gA_sA, if_neg b, gA_sA, if_neg a]
      have w1 : gA w 1 = (gA s 1).set f v := by rw [hw]; simp [gA_sA]
      have w2 : gA w 2 = (gA s 2).set f 0 := by rw [hw]; simp [gA_sA]
      have Fw : Fx [] [] [1, 2, 3, 4, 5, 6] [] u w := by
        have F0 : Fx [] [] [1, 2, 3, 4, 5, 6] [] u u := Fx.refl ..
        rw [hw]; exact (F0.sA (by simp)).sA (by simp)
      have Gw : Geo NF NP w := Gu.same Fw (by rw [w1, List.length_set]; exact k1) (by rw [w2, List.length_set]; exact k2) (by rw [wA 3 (by decide) (by decide), uA 3 (by decide)]; exact l3) (by rw [wA 4 (by decide) (by decide), uA 4 (by decide)]; exact l4) (by rw [wA 5 (by decide) (by decide), uA 5 (by decide)]; exact l5) (by rw [wA 6 (by decide) (by decide), uA 6 (by decide)]; exact l6)
      have Cw : RC NF NP w c := fun g hg => by
        rw [w2]
        by_cases q : g = f
        · subst q; rw [List.getElem?_set_self (by omega), hc0]; rfl
        · rw [List.getElem?_set_ne (by omega)]; exact C g hg
      have Pw : RP w a.2.2 := fun z hz => by rw [wA 3 (by decide) (by decide), uA 3 (by decide)]; exact P z hz
      have Mw : RM NF NP w ls := fun g hg => by rw [wA 4 (by decide) (by decide), wA 5 (by decide) (by decide), wA 6 (by decide) (by decide), uA 4 (by decide), uA 5 (by decide), uA 6 (by decide)]; exact M g hg
      obtain ⟨s', es, Fs, Gs, Cs, Ps, Ms⟩ := attach_ok Gw Cw Pw Mw D hx z3 (fun g hg q => by rw [(q2 g x hg).mp q] at hp; cases hp)
      have am : aMapNew NF NP a v1 v2 v = (Int32.ofNat f, (aupd a.1 f 1, aupd a.2.1 f v, aupd a.2.2 x (some f))) := by
        unfold aMapNew; rw [n1]; dsimp only; rw [hp]; dsimp only; rw [z2]
      rw [am]
      refine ⟨s', ?_, aupd c f (c f + 1), aupd ls f (x :: ls f), Gs, ?_, ?_, Cs, Ps, Ms, con_map K z3 hx hx4 z4 hp v⟩
      · unfold k_mapNew
        rw [ct, Option.bind_some, if_pos rfl, if_neg z1, z5, inr_yes g0 z3 (by omega), if_neg (by decide), show (1 : Int32) = Int32.ofNat 1 from rfl, eu, Option.bind_some, uA 1 (by decide), uA 2 (by decide), st_ofNat _ _ (by omega) (by omega), Option.bind_some, st_ofNat _ _ (by omega) (by omega), Option.bind_some, n3, ← hw, es, Option.bind_some]
      · obtain ⟨t1, t2, t3, t4⟩ := Ru
        have F2 : Fx [] [] [1, 2, 3, 4, 5, 6] [] u s' := Fw.trans (Fs.mono (by simp) (by simp) (by simp) (by simp))
        exact ⟨by rw [F2.2.2.1 0 (by simp)]; exact t1, by rw [F2.2.1 2 (by simp)]; exact t2, by rw [F2.2.1 3 (by simp)]; exact t3, by rw [F2.1 6 (by simp), F2.2.2.2 7 (by simp), F2.2.1 2 (by simp)]; exact t4⟩
      · intro g hg
        rw [Fs.2.2.1 1 (by simp), w1]
        dsimp only
        unfold aupd
        by_cases q : g = f
        · subst q; rw [if_pos rfl, List.getElem?_set_self (by omega)]
        · rw [if_neg q, List.getElem?_set_ne (by omega)]; exact V g hg
def aShare (NF NP : Nat) (a : Abs) (v1 v2 w1 w2 : Int32) : Int32 × Abs := match aSlot NF NP v1 v2 with
  | none => (-1, a)
  | some x => match aSlot NF NP w1 w2 with
    | none => (-1, a)
    | some y => match a.2.2 x with
      | some _ => (-2, a)
      | none => match a.2.2 y with
        | none => (-3, a)
        | some f => (Int32.ofNat f, (a.1, a.2.1, aupd a.2.2 x (some f)))
theorem con_share {NF : Nat} {NP : Nat} {a : Abs} {c : Nat → Nat} {ls : Nat → List Nat} (K : Con NF NP a c ls) {f x y : Nat} (hx : x < 64) (hx4 : x % 16 < NP) (hy : a.2.2 y = some f) (hp : a.2.2 x = none) : Con NF NP (a.1, a.2.1, aupd a.2.2 x (some f)) (aupd c f (c f + 1)) (aupd ls f (x :: ls f)) := by
  obtain ⟨D, k1, k2, k3, k4, k5⟩ := id K
  have hf := (k3 y f hy).1
  have hc : 0 < c f := by
    rw [k1 f hf]; exact List.length_pos_of_mem ((k2 f y hf).mpr hy)
  have nx : ∀ g, g < NF → x ∉ ls g := fun g hg q => by rw [(k2 g x hg).mp q] at hp; cases hp
  refine ⟨⟨fun g hg => ?_, fun g g' z hg hg' q q' => ?_⟩, fun g hg => ?_, fun g z hg => ?_, fun z g q => ?_, fun g hg => ?_, k5⟩
  · unfold aupd
    by_cases e : g = f
    · rw [if_pos e]; exact List.nodup_cons.mpr ⟨nx f hf, D.1 f hf⟩
    · rw [if_neg e]; exact D.1 g hg
  · unfold aupd at q q'
    by_cases e : g = f
    · by_cases e' : g' = f
      · rw [e, e']
      · rw [if_pos e] at q; rw [if_neg e'] at q'
        rcases List.mem_cons.mp q with q | q
        · rw [q] at q'; exact absurd q' (nx g' hg')
        · rw [e]; exact D.2 f g' z hf hg' q q'
    · by_cases e' : g' = f
      · rw [if_neg e] at q; rw [if_pos e'] at q'
        rcases List.mem_cons.mp q' with q' | q'
        · rw [q'] at q; exact absurd q (nx g hg)
        · rw [e']; exact D.2 g f z hg hf q q'
      · rw [if_neg e] at q; rw [if_neg e'] at q'
        exact D.2 g g' z hg hg' q q'
  · unfold aupd
    by_cases e : g = f
    · rw [if_pos e, if_pos e, k1 f hf]; rfl
    · rw [if_neg e, if_neg e]; exact k1 g hg
  · dsimp only
    unfold aupd
    by_cases e : g = f
    · rw [if_pos e, List.mem_cons]
      by_cases r : z = x
      · simp [r, e]
      · rw [if_neg r, e]
        constructor
        · rintro (q | q)
          · exact absurd q r
          · exact (k2 f z hf).mp q
        · intro q; exact Or.inr ((k2 f z hf).mpr q)
    · rw [if_neg e]
      by_cases r : z = x
      · rw [if_pos r, r]
        constructor
        · intro q; exact absurd q (nx g hg)
        · intro q; exact absurd (Option.some.inj q).symm e
      · rw [if_neg r]; exact k2 g z hg
  · dsimp only at q
    unfold aupd at q
    by_cases r : z = x
    · rw [if_pos r] at q; cases q; rw [r]; exact ⟨hf, hx, hx4⟩
    · rw [if_neg r] at q; exact k3 z g q
  · dsimp only
    unfold aupd
    by_cases e : g = f
    · rw [if_pos e, e]
      exact ⟨fun _ => (k4 f hf).mp hc, fun _ => by omega⟩
    · rw [if_neg e]; exact k4 g hg
theorem share_ok {NF : Nat} {NP : Nat} {s : S} {a : Abs} (h : R NF NP s a) (v1 v2 w1 w2 : Int32) : ∃ s', k_share v1 v2 w1 w2 s = some ((aShare NF NP a v1 v2 w1 w2).1, s') ∧ R NF NP s' (aShare NF NP a v1 v2 w1 w2).2 := by
  have hN := h.dims
  obtain ⟨c, ls, G, RS', V, C, P, M, K⟩ := id h
  have hN := G.dims
  obtain ⟨g0, g1, l0, k1, k2, l3, l4, l5, l6, l7, g6⟩ := id G
  obtain ⟨D, q1, q2, q3, q4, q5⟩ := id K
  rcases page_cases g1 (by omega) v1 v2 with ⟨n1, n2⟩ | ⟨x, n1, hx, hx4, n2, n3⟩
  · refine ⟨s, ?_, ?_⟩
    · unfold k_share aShare; rw [n1, n2, if_pos rfl]
    · unfold aShare; rw [n1]; exact h
  rcases page_cases g1 (by omega) w1 w2 with ⟨m1, m2⟩ | ⟨y, m1, hy, hy4, m2, m3⟩
  · refine ⟨s, ?_, ?_⟩
    · unfold k_share aShare; rw [n1, m1, n2, m2, if_neg (by decide), if_pos rfl]
    · unfold aShare; rw [n1, m1]; exact h
  have st0 : k_share v1 v2 w1 w2 s = (if pcode (a.2.2 x) < 0 then (if k_frameInRange (pcode (a.2.2 y)) s = 0 then some (-3, s) else (k_attachPage (Int32.ofNat x) (pcode (a.2.2 y)) s).bind fun r79 => some (pcode (a.2.2 y), r79)) else some (-2, s)) := by
    unfold k_share
    rw [n2, m2, if_neg (by decide), if_neg (by decide), n3, m3, ix_ofNat _ (by omega), P x hx, Option.bind_some, ix_ofNat _ (by omega), P y hy, Option.bind_some]
  cases hp : a.2.2 x with
  | some f =>
    have hf := (q3 x f hp).1
    have hneg : ¬ pcode (some f) < 0 := ofNat_nonneg (by omega)
    have am : aShare NF NP a v1 v2 w1 w2 = (-2, a) := by unfold aShare; rw [n1, m1]; dsimp only; rw [hp]
    rw [am]
    exact ⟨s, by rw [st0, hp, if_neg hneg], h⟩
  | none =>
    rw [hp, if_pos (show pcode none < 0 by decide)] at st0
    cases hq : a.2.2 y with
    | none =>
      have am : aShare NF NP a v1 v2 w1 w2 = (-3, a) := by unfold aShare; rw [n1, m1]; dsimp only; rw [hp]; dsimp only; rw [hq]
      rw [am]
      refine ⟨s, ?_, h⟩
      rw [st0, hq, if_pos]
      unfold k_frameInRange
      rw [if_pos (show pcode none < 0 by decide)]
    | some f =>
      have hf := (q3 y f hq).1
      have am : aShare NF NP a v1 v2 w1 w2 = (Int32.ofNat f, (a.1, a.2.1, aupd a.2.2 x (some f))) := by unfold aShare; rw [n1, m1]; dsimp only; rw [hp]; dsimp only; rw [hq]
      rw [am]
      obtain ⟨s', es, Fs, Gs, Cs, Ps, Ms⟩ := attach_ok G C P M D hx hf (fun g hg q => by rw [(q2 g x hg).mp q] at hp; cases hp)
      refine ⟨s', ?_, aupd c f (c f + 1), aupd ls f (x :: ls f), Gs, ?_, ?_, Cs, Ps, Ms, con_share K hx hx4 hq hp⟩
      · rw [st0, hq]
        show (if k_frameInRange (Int32.ofNat f) s = 0 then _ else (k_attachPage (Int32.ofNat x) (Int32.ofNat f) s).bind fun r79 => some (Int32.ofNat f, r79)) = _
        rw [inr_yes g0 hf (by omega), if_neg (by decide), es, Option.bind_some]
      · obtain ⟨t1, t2, t3, t4⟩ := RS'
        exact ⟨by rw [Fs.2.2.1 0 (by simp)]; exact t1, by rw [Fs.2.1 2 (by simp)]; exact t2, by rw [Fs.2.1 3 (by simp)]; exact t3, by rw [Fs.1 6 (by simp), Fs.2.2.2 7 (by simp), Fs.2.1 2 (by simp)]; exact t4⟩
      · intro g hg; rw [Fs.2.2.1 1 (by simp)]; exact V g hg
theorem read_frame {NF : Nat} {NP : Nat} {s : S} {a : Abs} (h : R NF NP s a) (v1 v2 : Int32) : k_mappedFrame v1 v2 s = some (match aSlot NF NP v1 v2 with | none => -1 | some x => pcode (a.2.2 x)) := by
  have hN := h.dims
  obtain ⟨c, ls, G, RS', V, C, P, M, K⟩ := id h
  have hN := G.dims
  obtain ⟨g0, g1, l0, k1, k2, l3, l4, l5, l6, l7, g6⟩ := id G
  obtain ⟨D, q1, q2, q3, q4, q5⟩ := id K
  unfold k_mappedFrame
  rcases page_cases g1 (by omega) v1 v2 with ⟨n1, n2⟩ | ⟨x, n1, hx, hx4, n2, n3⟩
  · rw [n1, n2, if_pos rfl]
  · rw [n1, n2, if_neg (by decide), n3, ix_ofNat _ (by omega), P x hx, Option.bind_some]
    dsimp only
    cases hp : a.2.2 x with
    | none =>
      have : k_frameInRange (pcode none) s = 0 := by unfold k_frameInRange; rw [if_pos (show pcode none < 0 by decide)]
      rw [if_pos this]; rfl
    | some f =>
      have hf := (q3 x f hp).1
      have : k_frameInRange (pcode (some f)) s = 1 := inr_yes g0 hf (by omega)
      rw [this, if_neg (by decide)]
def others (pf : Nat → Option Nat) (x f : Nat) : Bool := (List.range 64).any fun y => decide (y ≠ x) && decide (pf y = some f)
def aUnmap (NF NP : Nat) (a : Abs) (v1 v2 : Int32) : Int32 × Abs := match aSlot NF NP v1 v2 with
  | none => (-1, a)
  | some x => match a.2.2 x with
    | none => (-3, a)
    | some f => (Int32.ofNat f, if others a.2.2 x f then (a.1, a.2.1, aupd a.2.2 x none) else (aupd a.1 f 0, aupd a.2.1 f 0, aupd a.2.2 x none))
theorem con_rm {NF : Nat} {NP : Nat} {a : Abs} {c : Nat → Nat} {ls : Nat → List Nat} (K : Con NF NP a c ls) {f x : Nat} {l1 l2 : List Nat} (hp : a.2.2 x = some f) (hl : ls f = l1 ++ x :: l2) : Dj NF NP (aupd ls f (l1 ++ l2)) ∧ (∀ g, g < NF → (aupd c f (c f - 1)) g = ((aupd ls f (l1 ++ l2)) g).length) ∧ (∀ g z, g < NF → (z ∈ (aupd ls f (l1 ++ l2)) g ↔ (aupd a.2.2 x none) z = some g)) ∧ (∀ z g, (aupd a.2.2 x none) z = some g → g < NF ∧ z < 64 ∧ z % 16 < NP) := by
  obtain ⟨D, k1, k2, k3, k4, k5⟩ := id K
  have hf := (k3 x f hp).1
  have nd := D.1 f hf
  rw [hl] at nd
  have nx : x ∉ l1 ++ l2 := by
    have := (List.Perm.nodup_iff List.perm_middle).mp nd
    exact (List.nodup_cons.mp this).1
  have nd2 : (l1 ++ l2).Nodup := (List.nodup_cons.mp ((List.Perm.nodup_iff List.perm_middle).mp nd)).2
  have sub : ∀ z, z ∈ l1 ++ l2 ↔ (z ∈ ls f ∧ z ≠ x) := fun z => by
    rw [hl]
    constructor
    · intro q
      refine ⟨?_, fun e => nx (e ▸ q)⟩
      simp only [List.mem_append, List.mem_cons] at q ⊢
      rcases q with q | q
      · exact Or.inl q
      · exact Or.inr (Or.inr q)
    · rintro ⟨q, e⟩
      simp only [List.mem_append, List.mem_cons] at q ⊢
      rcases q with q | q | q
      · exact Or.inl q
      · exact absurd q e
      · exact Or.inr q
  refine ⟨⟨fun g hg => ?_, fun g g' z hg hg' q q' => ?_⟩, fun g hg => ?_, fun g z hg => ?_, fun z g q => ?_⟩
  · unfold aupd
    by_cases e : g = f
    · rw [if_pos e]; exact nd2
    · rw [if_neg e]; exact D.1 g hg
  · have m1 : z ∈ ls g := by
      unfold aupd at q
      by_cases e : g = f
      · rw [if_pos e] at q; rw [e]; exact ((sub z).mp q).1
      · rw [if_neg e] at q; exact q
    have m2 : z ∈ ls g' := by
      unfold aupd at q'
      by_cases e : g' = f
      · rw [if_pos e] at q'; rw [e]; exact ((sub z).mp q').1
      · rw [if_neg e] at q'; exact q'
    exact D.2 g g' z hg hg' m1 m2
  · unfold aupd
    by_cases e : g = f
    · rw [if_pos e, if_pos e, k1 f hf, hl]; simp
    · rw [if_neg e, if_neg e]; exact k1 g hg
  · unfold aupd
    by_cases e : g = f
    · rw [if_pos e, sub z]
      by_cases r : z = x
      · rw [if_pos r]
        exact ⟨fun q => absurd r q.2, fun q => nomatch q⟩
      · rw [if_neg r, e]
        exact ⟨fun q => (k2 f z hf).mp q.1, fun q => ⟨(k2 f z hf).mpr q, r⟩⟩
    · rw [if_neg e]
      by_cases r : z = x
      · rw [if_pos r, r]
        refine ⟨fun q => ?_, fun q => nomatch q⟩
        have := (k2 g x hg).mp q
        rw [hp] at this
        exact absurd (Option.some.inj this).symm e
      · rw [if_neg r]; exact k2 g z hg
  · unfold aupd at q
    by_cases r : z = x
    · rw [if_pos r] at q; cases q
    · rw [if_neg r] at q; exact k3 z g q
theorem others_iff {NF : Nat} {NP : Nat} {a : Abs} {c : Nat → Nat} {ls : Nat → List Nat} (K : Con NF NP a c ls) {f x : Nat} {l1 l2 : List Nat} (hp : a.2.2 x = some f) (hl : ls f = l1 ++ x :: l2) : others a.2.2 x f = true ↔ l1 ++ l2 ≠ [] := by
  obtain ⟨k0, k1, k2, k3⟩ := con_rm K hp hl
  obtain ⟨D, q1, q2, q3, q4, q5⟩ := id K
  have hf := (q3 x f hp).1
  have u : (aupd ls f (l1 ++ l2)) f = l1 ++ l2 := by unfold aupd; rw [if_pos rfl]
  unfold others
  rw [List.any_eq_true]
  constructor
  · rintro ⟨y, hy, q⟩ e
    simp only [Bool.and_eq_true, decide_eq_true_eq] at q
    have := (k2 f y hf).mpr (by unfold aupd; rw [if_neg q.1]; exact q.2)
    rw [u, e] at this
    cases this
  · intro e
    obtain ⟨y, r, er⟩ := List.exists_cons_of_ne_nil e
    have hy : y ∈ (aupd ls f (l1 ++ l2)) f := by rw [u, er]; exact List.mem_cons_self
    have h1 := (k2 f y hf).mp hy
    unfold aupd at h1
    by_cases w : y = x
    · rw [if_pos w] at h1; cases h1
    · rw [if_neg w] at h1
      exact ⟨y, List.mem_range.mpr (q3 y f h1).2.1, by simp [w, h1]⟩
theorem unmap_ok {NF : Nat} {NP : Nat} {s : S} {a : Abs} (h : R NF NP s a) (v1 v2 : Int32) : ∃ s', k_unmap v1 v2 s = some ((aUnmap NF NP a v1 v2).1, s') ∧ R NF NP s' (aUnmap NF NP a v1 v2).2 := by
  have hN := h.dims
  obtain ⟨c, ls, G, RS', V, C, P, M, K⟩ := id h
  have hN := G.dims
  obtain ⟨g0, g1, l0, k1, k2, l3, l4, l5, l6, l7, g6⟩ := id G
  obtain ⟨D, q1, q2, q3, q4, q5⟩ := id K
  rcases page_cases g1 (by omega) v1 v2 with ⟨n1, n2⟩ | ⟨x, n1, hx, hx4, n2, n3⟩
  · refine ⟨s, ?_, ?_⟩
    · unfold k_unmap aUnmap; rw [n1, n2, if_pos rfl]
    · unfold aUnmap; rw [n1]; exact h
  cases hp : a.2.2 x with
  | none =>
    have am : aUnmap NF NP a v1 v2 = (-3, a) := by unfold aUnmap; rw [n1]; dsimp only; rw [hp]
    rw [am]
    refine ⟨s, ?_, h⟩
    unfold k_unmap
    rw [n2, if_neg (by decide), n3, ix_ofNat _ (by omega), P x hx, Option.bind_some, hp, if_pos (show pcode none < 0 by decide)]
  | some f =>
    have hf := (q3 x f hp).1
    have hneg : ¬ pcode (some f) < 0 := ofNat_nonneg (by omega)
    obtain ⟨l1, l2, hl⟩ := List.append_of_mem ((q2 f x hf).mpr hp)
    have lc : c f = (l1 ++ l2).length + 1 := by rw [q1 f hf, hl]; simp; omega
    obtain ⟨z1, z2, z3, z4⟩ := con_rm K hp hl
    have oi := others_iff K hp hl
    obtain ⟨u, eu, Fu, Gu, Cu, Pu, Mu⟩ := detach_ok G C P M D hx hf hp hl (by omega)
    have cl : c f ≤ 64 := by rw [q1 f hf]; exact nodup_len (D.1 f hf) (fun y hy => (q3 y f ((q2 f y hf).mp hy)).2.1)
    have Ru : RS NF NP u a.1 := by
      obtain ⟨t1, t2, t3, t4⟩ := RS'
      exact ⟨by rw [Fu.2.2.1 0 (by simp)]; exact t1, by rw [Fu.2.1 2 (by simp)]; exact t2, by rw [Fu.2.1 3 (by simp)]; exact t3, by rw [Fu.1 6 (by simp), Fu.2.2.2 7 (by simp), Fu.2.1 2 (by simp)]; exact t4⟩
    have Vu : RV NF NP u a.2.1 := fun g hg => by rw [Fu.2.2.1 1 (by simp)]; exact V g hg
    have k0 : k_unmap v1 v2 s = (if 0 < Int32.ofNat (c f - 1) then some (Int32.ofNat f, u) else (k_freeFrame (Int32.ofNat f) u).bind fun r62 => some (Int32.ofNat f, r62)) := by
      unfold k_unmap
      rw [n2, if_neg (by decide), n3, ix_ofNat _ (by omega), P x hx, Option.bind_some, hp, if_neg hneg, eu, Option.bind_some]
      dsimp only
      rw [inr_yes Gu.1 hf (by omega), if_neg (by decide), ix_ofNat _ (by omega), Cu f hf, Option.bind_some]
      unfold aupd
      rw [if_pos rfl]
    by_cases e : l1 ++ l2 = []
    · have ob : others a.2.2 x f = false := by
        cases ho : others a.2.2 x f with
        | false => rfl
        | true => exact absurd e (oi.mp ho)
      have am : aUnmap NF NP a v1 v2 = (Int32.ofNat f, (aupd a.1 f 0, aupd a.2.1 f 0, aupd a.2.2 x none)) := by unfold aUnmap; rw [n1]; dsimp only; rw [hp]; dsimp only; rw [ob]; rfl
      rw [am]
      have c1 : c f - 1 = 0 := by rw [lc, e]; rfl
      obtain ⟨s', es, Fs, Gs, Rs, Vs, Cs, Ps, Ms⟩ := free_ok Gu Ru Vu Cu Pu Mu hf (by unfold aupd; rw [if_pos rfl]; exact e)
      refine ⟨s', ?_, _, _, Gs, Rs, Vs, Cs, Ps, Ms, z1, ?_, z3, z4, ?_, ?_⟩
      · rw [k0, c1, if_neg (by decide), es, Option.bind_some]
      · intro g hg
        have := z2 g hg
        unfold aupd at this ⊢
        by_cases w : g = f
        · rw [if_pos w]; rw [if_pos w, if_pos w, e] at this; rw [if_pos w, e]; rfl
        · rw [if_neg w, if_neg w]; rw [if_neg w] at this; exact this
      · intro g hg
        dsimp only
        unfold aupd
        by_cases w : g = f
        · rw [if_pos w, if_pos w]; simp
        · rw [if_neg w, if_neg w, if_neg w]; exact q4 g hg
      · intro g hg q
        dsimp only at q ⊢
        unfold aupd at q ⊢
        by_cases w : g = f
        · rw [if_pos w]
        · rw [if_neg w] at q ⊢; exact q5 g hg q
    · have ob : others a.2.2 x f = true := oi.mpr e
      have am : aUnmap NF NP a v1 v2 = (Int32.ofNat f, (a.1, a.2.1, aupd a.2.2 x none)) := by unfold aUnmap; rw [n1]; dsimp only; rw [hp]; dsimp only; rw [ob]; rfl
      rw [am]
      have c1 : 0 < c f - 1 := by
        rw [lc]
        have := List.length_pos_iff.mpr e
        omega
      refine ⟨u, ?_, _, _, Gu, Ru, Vu, Cu, Pu, Mu, z1, z2, z3, z4, ?_, q5⟩
      · rw [k0, if_pos]
        rw [show (0 : Int32) = Int32.ofNat 0 from rfl, ofNat_lt (by omega) (by omega)]; exact c1
      · intro g hg
        dsimp only
        unfold aupd
        by_cases w : g = f
        · rw [if_pos w, w]
          exact ⟨fun _ => (q4 f hf).mp (by omega), fun _ => c1⟩
        · rw [if_neg w]; exact q4 g hg
def aFr (NF NP : Nat) (a : Abs) (v1 v2 : Int32) : Option Nat := match aSlot NF NP v1 v2 with
  | none => none
  | some x => a.2.2 x
theorem read_frame' {NF : Nat} {NP : Nat} {s : S} {a : Abs} (h : R NF NP s a) (v1 v2 : Int32) : k_mappedFrame v1 v2 s = some (pcode (aFr NF NP a v1 v2)) := by
  have hN := h.dims
  rw [read_frame h]; unfold aFr; cases aSlot NF NP v1 v2 <;> rfl
theorem aFr_lt {NF : Nat} {NP : Nat} {s : S} {a : Abs} (h : R NF NP s a) {v1 v2 : Int32} {f : Nat} (e : aFr NF NP a v1 v2 = some f) : f < NF := by
  have hN := h.dims
  obtain ⟨c, ls, G, RS', V, C, P, M, D, q1, q2, q3, q4, q5⟩ := h
  have hN := G.dims
  unfold aFr at e
  cases hs : aSlot NF NP v1 v2 with
  | none => rw [hs] at e; cases e
  | some x => rw [hs] at e; exact (q3 x f e).1
theorem aFr_used {NF : Nat} {NP : Nat} {s : S} {a : Abs} (h : R NF NP s a) {v1 v2 : Int32} {f : Nat} (e : aFr NF NP a v1 v2 = some f) : a.1 f = 1 ∨ a.1 f = 2 := by
  have hN := h.dims
  have hf := aFr_lt h e
  obtain ⟨c, ls, G, RS', V, C, P, M, D, q1, q2, q3, q4, q5⟩ := h
  have hN := G.dims
  unfold aFr at e
  cases hs : aSlot NF NP v1 v2 with
  | none => rw [hs] at e; cases e
  | some x =>
    rw [hs] at e
    refine (q4 f hf).mp ?_
    rw [q1 f hf]
    exact List.length_pos_of_mem ((q2 f x hf).mpr e)
theorem frameOf_ok {NF : Nat} {NP : Nat} {s : S} {a : Abs} (h : R NF NP s a) (v1 v2 : Int32) : k_frameOf v1 v2 s = some (pcode (aFr NF NP a v1 v2)) := by
  have hN := h.dims
  unfold k_frameOf
  rw [read_frame' h, Option.bind_some]
  cases hq : aFr NF NP a v1 v2 with
  | none => rfl
  | some f => rw [if_neg (show ¬ pcode (some f) < 0 from ofNat_nonneg (by have := aFr_lt h hq; omega))]
def aRead (NF NP : Nat) (a : Abs) (v1 v2 : Int32) : Int32 := match aFr NF NP a v1 v2 with
  | none => 0
  | some f => a.2.1 f
theorem read_ok {NF : Nat} {NP : Nat} {s : S} {a : Abs} (h : R NF NP s a) (v1 v2 : Int32) : k_read v1 v2 s = some (aRead NF NP a v1 v2) := by
  have hN := h.dims
  unfold k_read aRead
  rw [read_frame' h, Option.bind_some]
  cases hq : aFr NF NP a v1 v2 with
  | none => rfl
  | some f =>
    have hf := aFr_lt h hq
    obtain ⟨c, ls, G, RS', V, C, P, M, K⟩ := h
    have hN := G.dims
    rw [if_neg (show ¬ pcode (some f) < 0 from ofNat_nonneg (by omega))]
    show (ix (gA s 1) (Int32.ofNat f)).bind _ = _
    rw [ix_ofNat _ (by omega), V f hf, Option.bind_some]
def aWrite (NF NP : Nat) (a : Abs) (v1 v2 v : Int32) : Int32 × Abs := match aFr NF NP a v1 v2 with
  | none => (0, a)
  | some f => (1, (a.1, aupd a.2.1 f v, a.2.2))
theorem write_ok {NF : Nat} {NP : Nat} {s : S} {a : Abs} (h : R NF NP s a) (v1 v2 v : Int32) : ∃ s', k_write v1 v2 v s = some ((aWrite NF NP a v1 v2 v).1, s') ∧ R NF NP s' (aWrite NF NP a v1 v2 v).2 := by
  have hN := h.dims
  unfold k_write aWrite
  rw [read_frame' h, Option.bind_some]
  cases hq : aFr NF NP a v1 v2 with
  | none => exact ⟨s, rfl, h⟩
  | some f =>
    have hf := aFr_lt h hq
    have hu := aFr_used h hq
    obtain ⟨c, ls, G, RS', V, C, P, M, K⟩ := h
    have hN := G.dims
    obtain ⟨g0, g1, l0, k1, k2, l3, l4, l5, l6, l7, g6⟩ := id G
    obtain ⟨D, q1, q2, q3, q4, q5⟩ := id K
    rw [if_neg (show ¬ pcode (some f) < 0 from ofNat_nonneg (by omega))]
    have F : Fx [] [] [1, 2, 3, 4, 5, 6] [] s (sA s 1 ((gA s 1).set f v)) := (Fx.refl ..).sA (by simp)
    have oA : ∀ k, k ≠ 1 → gA (sA s 1 ((gA s 1).set f v)) k = gA s k := fun k hk => by rw [gA_sA, if_neg hk]
    have o1 : gA (sA s 1 ((gA s 1).set f v)) 1 = (gA s 1).set f v := by rw [gA_sA, if_pos rfl]
    refine ⟨sA s 1 ((gA s 1).set f v), ?_, c, ls, G.same F ?_ ?_ ?_ ?_ ?_ ?_, ?_, ?_, ?_, ?_, ?_, D, q1, q2, q3, q4, ?_⟩
    · show (Jvm.AM.st (gA s 1) (Int32.ofNat f) v).bind _ = _
      rw [st_ofNat _ _ (by omega) (by omega), Option.bind_some]
    · rw [o1, List.length_set]; exact k1
    · rw [oA 2 (by decide)]; exact k2
    · rw [oA 3 (by decide)]; exact l3
    · rw [oA 4 (by decide)]; exact l4
    · rw [oA 5 (by decide)]; exact l5
    · rw [oA 6 (by decide)]; exact l6
    · obtain ⟨t1, t2, t3, t4⟩ := RS'
      exact ⟨by rw [oA 0 (by decide)]; exact t1, t2, t3, t4⟩
    · intro g hg
      rw [o1]
      dsimp only
      unfold aupd
      by_cases q : g = f
      · subst q; rw [if_pos rfl, List.getElem?_set_self (by omega)]
      · rw [if_neg q, List.getElem?_set_ne (by omega)]; exact V g hg
    · intro g hg; rw [oA 2 (by decide)]; exact C g hg
    · intro g hg; rw [oA 3 (by decide)]; exact P g hg
    · intro g hg; rw [oA 4 (by decide), oA 5 (by decide), oA 6 (by decide)]; exact M g hg
    · intro g hg q
      dsimp only at q ⊢
      unfold aupd
      by_cases w : g = f
      · subst w; omega
      · rw [if_neg w]; exact q5 g hg q
def aFrame (NF NP : Nat) (v : Int32) : Option Nat := if v < 0 then none else if v < Int32.ofNat NF then some v.toNatClampNeg else none
theorem frame_cases {NF : Nat} {NP : Nat} {s : S} (g0 : gI s 0 = Int32.ofNat NF) (h64 : NF ≤ 64) (v : Int32) : (aFrame NF NP v = none ∧ k_frameInRange v s = 0) ∨ ∃ f, f < NF ∧ v = Int32.ofNat f ∧ aFrame NF NP v = some f ∧ k_frameInRange v s = 1 := by
  unfold aFrame k_frameInRange
  rw [g0]
  by_cases q1 : v < 0
  · left; simp [q1]
  by_cases q2 : v < Int32.ofNat NF
  · right
    have := clamp_lt (n := NF) q1 q2 (by omega)
    exact ⟨v.toNatClampNeg, this, (eq_ofNat q1).1, by rw [if_neg q1, if_pos q2], by rw [if_neg q1, if_pos q2]⟩
  · left; simp [q1, q2]
theorem aFrame_nat {NF : Nat} {NP : Nat} {f : Nat} (hf : f < NF) (h64 : NF ≤ 64) : aFrame NF NP (Int32.ofNat f) = some f := by
  unfold aFrame
  rw [if_neg (ofNat_nonneg (by omega)), if_pos (by rw [ofNat_lt (by omega) (by omega)]; exact hf), ofNat_clamp (by omega)]
theorem enc_inj {x y : Nat} (hx : x < 1000) (hy : y < 1000) : Int32.ofNat x = Int32.ofNat y ↔ x = y := by
  constructor
  · intro e
    have := congrArg Int32.toInt e
    rw [ofNat_toInt (by omega), ofNat_toInt (by omega)] at this
    omega
  · intro e; rw [e]
def aTurn (NF NP : Nat) (a : Abs) (v : Int32) (p q : Nat) : Int32 × Abs := match aFrame NF NP v with
  | none => (0, a)
  | some f => if a.1 f = p then (1, (aupd a.1 f q, a.2)) else (0, a)
theorem turn_core {NF : Nat} {NP : Nat} {s : S} {a : Abs} {p q : Nat} (hp : p = 1 ∨ p = 2) (hq : q = 1 ∨ q = 2) (h : R NF NP s a) {f : Nat} (hf : f < NF) (e : a.1 f = p) : ∃ s', k_enterState (Int32.ofNat f) (Int32.ofNat q) s = some s' ∧ R NF NP s' (aupd a.1 f q, a.2) := by
  have hN := h.dims
  obtain ⟨c, ls, G, RS', V, C, P, M, K⟩ := h
  have hN := G.dims
  obtain ⟨D, q1, q2, q3, q4, q5⟩ := id K
  obtain ⟨u, eu, Fu, Gu, Ru⟩ := enter_ok G RS' hf (x := q) (by omega)
  refine ⟨u, eu, c, ls, Gu, Ru, ?_, ?_, ?_, ?_, D, q1, q2, q3, ?_, ?_⟩
  · intro g hg; rw [Fu.2.2.1 1 (by simp)]; exact V g hg
  · intro g hg; rw [Fu.2.2.1 2 (by simp)]; exact C g hg
  · intro g hg; rw [Fu.2.2.1 3 (by simp)]; exact P g hg
  · intro g hg; rw [Fu.2.2.1 4 (by simp), Fu.2.2.1 5 (by simp), Fu.2.2.1 6 (by simp)]; exact M g hg
  · intro g hg
    dsimp only
    unfold aupd
    by_cases w : g = f
    · subst w; rw [if_pos rfl, q4 g hg]; omega
    · rw [if_neg w]; exact q4 g hg
  · intro g hg z
    dsimp only at z ⊢
    unfold aupd at z
    by_cases w : g = f
    · rw [if_pos w] at z; omega
    · rw [if_neg w] at z; exact q5 g hg z
theorem pin_ok {NF : Nat} {NP : Nat} {s : S} {a : Abs} (h : R NF NP s a) (v : Int32) : ∃ s', k_pin v s = some ((aTurn NF NP a v 1 2).1, s') ∧ R NF NP s' (aTurn NF NP a v 1 2).2 := by
  have hN := h.dims
  have g0 : gI s 0 = Int32.ofNat NF := by obtain ⟨c, ls, G, _⟩ := h; exact G.1
  have RS' : RS NF NP s a.1 := by obtain ⟨c, ls, G, RS', _⟩ := h; exact RS'
  unfold k_pin aTurn
  rcases frame_cases g0 (by omega) v with ⟨n1, n2⟩ | ⟨f, hf, ev, n1, n2⟩
  · rw [n1, n2, if_pos rfl]; exact ⟨s, rfl, h⟩
  · obtain ⟨z1, z2⟩ := RS'.1 f hf
    rw [n1, n2, if_neg (by decide), ev, ix_ofNat _ (by omega), z2, Option.bind_some]
    dsimp only
    by_cases e : a.1 f = 1
    · obtain ⟨s', es, Rs⟩ := turn_core (p := 1) (q := 2) (Or.inl rfl) (Or.inr rfl) h hf e
      rw [if_pos (show Int32.ofNat (a.1 f) = 1 by rw [e]; rfl), if_pos e, show (2 : Int32) = Int32.ofNat 2 from rfl, es, Option.bind_some]
      exact ⟨s', rfl, Rs⟩
    · rw [if_neg (show ¬ Int32.ofNat (a.1 f) = 1 from fun q => e ((enc_inj (by omega) (by omega)).mp q)), if_neg e]
      exact ⟨s, rfl, h⟩
theorem unpin_ok {NF : Nat} {NP : Nat} {s : S} {a : Abs} (h : R NF NP s a) (v : Int32) : ∃ s', k_unpin v s = some ((aTurn NF NP a v 2 1).1, s') ∧ R NF NP s' (aTurn NF NP a v 2 1).2 := by
  have hN := h.dims
  have g0 : gI s 0 = Int32.ofNat NF := by obtain ⟨c, ls, G, _⟩ := h; exact G.1
  have RS' : RS NF NP s a.1 := by obtain ⟨c, ls, G, RS', _⟩ := h; exact RS'
  unfold k_unpin aTurn
  rcases frame_cases g0 (by omega) v with ⟨n1, n2⟩ | ⟨f, hf, ev, n1, n2⟩
  · rw [n1, n2, if_pos rfl]; exact ⟨s, rfl, h⟩
  · obtain ⟨z1, z2⟩ := RS'.1 f hf
    rw [n1, n2, if_neg (by decide), ev, ix_ofNat _ (by omega), z2, Option.bind_some]
    dsimp only
    by_cases e : a.1 f = 2
    · obtain ⟨s', es, Rs⟩ := turn_core (p := 2) (q := 1) (Or.inr rfl) (Or.inl rfl) h hf e
      rw [if_pos (show Int32.ofNat (a.1 f) = 2 by rw [e]; rfl), if_pos e, show (1 : Int32) = Int32.ofNat 1 from rfl, es, Option.bind_some]
      exact ⟨s', rfl, Rs⟩
    · rw [if_neg (show ¬ Int32.ofNat (a.1 f) = 2 from fun q => e ((enc_inj (by omega) (by omega)).mp q)), if_neg e]
      exact ⟨s, rfl, h⟩
theorem con_empty {NF : Nat} {NP : Nat} {a : Abs} {c : Nat → Nat} {ls : Nat → List Nat} (K : Con NF NP a c ls) {f : Nat} (hf : f < NF) (e : a.1 f = 0 ∨ a.1 f = 3) : ls f = [] ∧ c f = 0 := by
  obtain ⟨D, q1, q2, q3, q4, q5⟩ := id K
  have hc : c f = 0 := by
    rcases Nat.eq_zero_or_pos (c f) with q | q
    · exact q
    · have := (q4 f hf).mp q; omega
  refine ⟨?_, hc⟩
  rw [q1 f hf] at hc
  exact List.length_eq_zero_iff.mp hc
theorem con_wipe {NF : Nat} {NP : Nat} {a : Abs} {c : Nat → Nat} {ls : Nat → List Nat} (K : Con NF NP a c ls) {f x : Nat} (hf : f < NF) (e : a.1 f = 0 ∨ a.1 f = 3) (hx : x = 0 ∨ x = 3) : Con NF NP (aupd a.1 f x, aupd a.2.1 f 0, a.2.2) (aupd c f 0) ls := by
  obtain ⟨z1, z2⟩ := con_empty K hf e
  obtain ⟨D, q1, q2, q3, q4, q5⟩ := id K
  have uc : aupd c f 0 = c := by rw [← z2]; exact upd_self c f
  rw [uc]
  refine ⟨D, q1, q2, q3, ?_, ?_⟩
  · intro g hg
    dsimp only
    unfold aupd
    by_cases w : g = f
    · subst w; rw [if_pos rfl]; omega
    · rw [if_neg w]; exact q4 g hg
  · intro g hg z
    dsimp only at z ⊢
    unfold aupd at z ⊢
    by_cases w : g = f
    · rw [if_pos w]
    · rw [if_neg w] at z ⊢; exact q5 g hg z
def aRelease (NF NP : Nat) (a : Abs) (v : Int32) : Int32 × Abs := match aFrame NF NP v with
  | none => (0, a)
  | some f => if a.1 f = 3 then (1, (aupd a.1 f 0, aupd a.2.1 f 0, a.2.2)) else (0, a)
theorem release_ok {NF : Nat} {NP : Nat} {s : S} {a : Abs} (h : R NF NP s a) (v : Int32) : ∃ s', k_release v s = some ((aRelease NF NP a v).1, s') ∧ R NF NP s' (aRelease NF NP a v).2 := by
  have hN := h.dims
  obtain ⟨c, ls, G, RS', V, C, P, M, K⟩ := id h
  have hN := G.dims
  have g0 : gI s 0 = Int32.ofNat NF := G.1
  unfold k_release aRelease
  rcases frame_cases g0 (by omega) v with ⟨n1, n2⟩ | ⟨f, hf, ev, n1, n2⟩
  · rw [n1, n2, if_pos rfl]; exact ⟨s, rfl, h⟩
  · obtain ⟨z1, z2⟩ := RS'.1 f hf
    rw [n1, n2, if_neg (by decide), ev, ix_ofNat _ (by omega), z2, Option.bind_some]
    dsimp only
    by_cases e : a.1 f = 3
    · obtain ⟨y1, y2⟩ := con_empty K hf (Or.inr e)
      obtain ⟨s', es, Fs, Gs, Rs, Vs, Cs, Ps, Ms⟩ := free_ok G RS' V C P M hf y1
      rw [if_pos (show Int32.ofNat (a.1 f) = 3 by rw [e]; rfl), if_pos e, es, Option.bind_some]
      exact ⟨s', rfl, _, _, Gs, Rs, Vs, Cs, Ps, Ms, con_wipe K hf (Or.inr e) (Or.inl rfl)⟩
    · rw [if_neg (show ¬ Int32.ofNat (a.1 f) = 3 from fun q => e ((enc_inj (by omega) (by omega)).mp q)), if_neg e]
      exact ⟨s, rfl, h⟩
theorem lev_sh : ∀ k : Fin 6, (1 : Int32) <<< ((Int32.ofNat (k.val + 1) - (1 : Int32)) &&& 31) = Int32.ofNat (2 ^ k.val) := by decide
theorem align_bit : ∀ (k : Fin 6) (y : Fin 64), bl (k_alignMask (Int32.ofNat (k.val + 1))) y.val = decide (y.val % 2 ^ (k.val + 1) = 0) := by decide +kernel
theorem lev_iff (w : Int64) : ∀ k, k < 7 → ∀ f, bl (lev w k) f = true ↔ f % 2 ^ k = 0 ∧ ∀ j, j < 2 ^ k → bl w (f + j) = true
  | 0, _, f => by
    rw [lev]
    exact ⟨fun h => ⟨by omega, fun j hj => by rw [show j = 0 by omega]; exact h⟩, fun h => h.2 0 (by omega)⟩
  | k + 1, hk, f => by
    have ih := lev_iff w k (by omega)
    have p : 2 ^ k ≤ 32 := by
      have : 2 ^ k ≤ 2 ^ 5 := Nat.pow_le_pow_right (by omega) (by omega)
      omega
    have p0 : 0 < 2 ^ k := Nat.two_pow_pos k
    have ps : 2 ^ (k + 1) = 2 ^ k + 2 ^ k := by rw [Nat.pow_succ]; omega
    rw [lev, show (1 : Int32) <<< ((Int32.ofNat (k + 1) - (1 : Int32)) &&& 31) = _ from lev_sh ⟨k, by omega⟩, bl_and, bl_and, bl_ushr _ (by show 2 ^ k < 64; omega)]
    dsimp only
    by_cases f64 : f < 64
    · rw [show bl (k_alignMask (Int32.ofNat (k + 1))) f = _ from align_bit ⟨k, by omega⟩ ⟨f, f64⟩]
      dsimp only
      rw [Bool.and_eq_true, Bool.and_eq_true, decide_eq_true_eq, ih f, ih (f + 2 ^ k)]
      constructor
      · rintro ⟨⟨h1, h2⟩, h3⟩
        refine ⟨h3, fun j hj => ?_⟩
        by_cases q : j < 2 ^ k
        · exact h1.2 j q
        · have := h2.2 (j - 2 ^ k) (by omega)
          rw [show f + 2 ^ k + (j - 2 ^ k) = f + j by omega] at this
          exact this
      · rintro ⟨h1, h2⟩
        have m : f % 2 ^ k = 0 := by
          have d : 2 ^ k ∣ 2 ^ (k + 1) := Nat.pow_dvd_pow 2 (by omega)
          have := Nat.dvd_trans d (Nat.dvd_of_mod_eq_zero h1)
          exact Nat.mod_eq_zero_of_dvd this
        refine ⟨⟨⟨m, fun j hj => h2 j (by omega)⟩, ⟨by rw [Nat.add_mod_right]; exact m, fun j hj => ?_⟩⟩, h1⟩
        have := h2 (2 ^ k + j) (by omega)
        rw [show f + (2 ^ k + j) = f + 2 ^ k + j by omega] at this
        exact this
    · constructor
      · intro h
        rw [bl_ge (lev w k) (by omega)] at h
        cases h
      · rintro ⟨_, h2⟩
        have := h2 0 (by omega)
        rw [bl_ge w (by omega)] at this
        cases this
def runAt (NF NP : Nat) (st : Nat → Nat) (k s : Nat) : Bool := decide (s % 2 ^ k = 0) && (List.range (2 ^ k)).all fun j => decide (s + j < NF) && decide (st (s + j) = 0)
def lowRun (NF NP : Nat) (st : Nat → Nat) (k : Nat) : Option Nat := (List.range NF).find? fun s => runAt NF NP st k s
theorem refresh_ok {NF : Nat} {NP : Nat} {s : S} {a : Abs} (h : R NF NP s a) : ∃ s', k_refreshRuns s = some s' ∧ R NF NP s' a ∧ gL s' 2 = gL s 2 ∧ ∀ k, k < 7 → (gB s' 7)[k]? = some (lev (gL s 2) k) := by
  have hN := h.dims
  obtain ⟨c, ls, G, RS', V, C, P, M, K⟩ := id h
  have hN := G.dims
  obtain ⟨g0, g1, l0, k1, k2, l3, l4, l5, l6, l7, g6⟩ := id G
  obtain ⟨t1, t2, t3, t4⟩ := id RS'
  rcases g6.1 with q | q
  · refine ⟨s, ?_, h, rfl, t4 q⟩
    unfold k_refreshRuns; rw [if_pos q]
  · obtain ⟨t, e, F, lv, i6, lt⟩ := own_runs s q l7
    have oA : ∀ k, gA t k = gA s k := fun k => F.2.2.1 k (by simp)
    refine ⟨t, e, ⟨c, ls, ⟨by rw [F.1 0 (by simp)]; exact g0, by rw [F.1 1 (by simp)]; exact g1, by rw [oA]; exact l0, by rw [oA]; exact k1, by rw [oA]; exact k2, by rw [oA]; exact l3, by rw [oA]; exact l4, by rw [oA]; exact l5, by rw [oA]; exact l6, lt, Or.inl i6, hN⟩, ⟨by rw [oA]; exact t1, by rw [F.2.1 2 (by simp)]; exact t2, by rw [F.2.1 3 (by simp)]; exact t3, by rw [F.2.1 2 (by simp)]; exact fun _ => lv⟩, fun g hg => by rw [oA]; exact V g hg, fun g hg => by rw [oA]; exact C g hg, fun g hg => by rw [oA]; exact P g hg, fun g hg => by rw [oA, oA, oA]; exact M g hg, K⟩, F.2.1 2 (by simp), lv⟩
theorem lowRun_ok {NF : Nat} {NP : Nat} {w : Int64} (h64 : NF ≤ 64) {st : Nat → Nat} (b : ∀ f, f < 64 → bl w f = decide (f < NF ∧ st f = 0)) {k : Nat} (hk : k < 7) : (lev w k = 0 ∧ lowRun NF NP st k = none) ∨ ∃ f, f < NF ∧ lev w k ≠ 0 ∧ lowRun NF NP st k = some f ∧ runAt NF NP st k f = true ∧ k_lowestBit (lev w k) = Int32.ofNat f := by
  have w4 : ∀ f, bl (lev w k) f = true ↔ runAt NF NP st k f = true := fun f => by
    rw [lev_iff w k hk]
    unfold runAt
    simp only [Bool.and_eq_true, decide_eq_true_eq, List.all_eq_true, List.mem_range]
    constructor
    · rintro ⟨h1, h2⟩
      refine ⟨h1, fun j hj => ?_⟩
      have := h2 j hj
      by_cases q : f + j < 64
      · rw [b _ q, decide_eq_true_eq] at this; exact this
      · rw [bl_ge w (by omega)] at this; cases this
    · rintro ⟨h1, h2⟩
      refine ⟨h1, fun j hj => ?_⟩
      obtain ⟨a1, a2⟩ := h2 j hj
      rw [b _ (by omega)]; exact decide_eq_true ⟨a1, a2⟩
  have lt : ∀ f, runAt NF NP st k f = true → f < NF := fun f h => by
    unfold runAt at h
    simp only [Bool.and_eq_true, decide_eq_true_eq, List.all_eq_true, List.mem_range] at h
    have p0 : 0 < 2 ^ k := Nat.two_pow_pos k
    have := (h.2 0 p0).1
    omega
  by_cases q : lev w k = 0
  · left
    refine ⟨q, ?_⟩
    unfold lowRun
    rw [List.find?_eq_none]
    intro f hf z
    have := (w4 f).mpr z
    rw [q, bl_zero] at this
    cases this
  · right
    obtain ⟨f, f64, e, bf, lf⟩ := low_ok q
    have rf := (w4 f).mp bf
    refine ⟨f, lt f rf, q, ?_, rf, e⟩
    unfold lowRun
    rw [List.find?_range_eq_some]
    refine ⟨rf, by simpa using lt f rf, ?_⟩
    intro j hj
    cases z : runAt NF NP st k j with
    | false => rfl
    | true => exact absurd ((lf j hj).symm.trans ((w4 j).mpr z)) (by decide)
def resv (st : Nat → Nat) (val : Nat → Int32) (f : Nat) : Nat → (Nat → Nat) × (Nat → Int32)
  | 0 => (st, val)
  | n + 1 => (aupd (resv st val f n).1 (f + n) 3, aupd (resv st val f n).2 (f + n) 0)
theorem resv_st (st : Nat → Nat) (val : Nat → Int32) (f : Nat) : ∀ n g, (resv st val f n).1 g = if f ≤ g ∧ g < f + n then 3 else st g
  | 0, g => by rw [if_neg (by omega)]; rfl
  | n + 1, g => by
    show (aupd (resv st val f n).1 (f + n) 3) g = _
    unfold aupd
    by_cases q : g = f + n
    · rw [if_pos q, if_pos (by omega)]
    · rw [if_neg q, resv_st st val f n g]
      by_cases w : f ≤ g ∧ g < f + n
      · rw [if_pos w, if_pos (by omega)]
      · rw [if_neg w, if_neg (by omega)]
theorem reserve_loop {NF : Nat} {NP : Nat} {a : Abs} {f n : Nat} (hn : f + n ≤ NF) (e : ∀ j, j < n → a.1 (f + j) = 0) : ∀ m i s N, i + m = n → m < N → R NF NP s ((resv a.1 a.2.1 f i).1, (resv a.1 a.2.1 f i).2, a.2.2) → ∃ s', k_reserveRun_7 N (Int32.ofNat f) (Int32.ofNat n) (Int32.ofNat i) s = some s' ∧ R NF NP s' ((resv a.1 a.2.1 f n).1, (resv a.1 a.2.1 f n).2, a.2.2)
  | m, i, s, 0, _, h, _ => by omega
  | 0, i, s, N + 1, hi, _, h => by
    have hN := h.dims
    have : i = n := by omega
    subst this
    refine ⟨s, ?_, h⟩
    rw [k_reserveRun_7, if_neg (by rw [ofNat_lt (by omega) (by omega)]; omega)]
  | m + 1, i, s, N + 1, hi, hN, h => by
    obtain ⟨c, ls, G, RS', V, C, P, M, K⟩ := id h
    have hN := G.dims
    have hst : (resv a.1 a.2.1 f i).1 (f + i) = 0 := by
      rw [resv_st, if_neg (by omega)]; exact e i (by omega)
    obtain ⟨y1, y2⟩ := con_empty K (f := f + i) (by omega) (Or.inl hst)
    obtain ⟨s', es, Fs, Gs, Rs, Vs, Cs, Ps, Ms⟩ := reserve_ok G RS' V C P M (f := f + i) (by omega) y1
    obtain ⟨s2, e2, R2⟩ := reserve_loop hn e m (i + 1) s' N (by omega) (by omega) ⟨_, _, Gs, Rs, Vs, Cs, Ps, Ms, con_wipe K (by omega) (Or.inl hst) (Or.inr rfl)⟩
    refine ⟨s2, ?_, R2⟩
    rw [k_reserveRun_7, if_pos (by rw [ofNat_lt (by omega) (by omega)]; omega), if_pos ((lt_lit (m := 64) (by omega) (by decide)).mpr (by omega)), ofNat_add', es, Option.bind_some, ofNat_succ]
    exact e2
def aAlloc (NF NP : Nat) (a : Abs) (v : Int32) : Int32 × Abs := if v < 0 then (-1, a) else if 6 < v then (-1, a) else match lowRun NF NP a.1 v.toNatClampNeg with
  | none => (-4, a)
  | some f => (Int32.ofNat f, ((resv a.1 a.2.1 f (2 ^ v.toNatClampNeg)).1, (resv a.1 a.2.1 f (2 ^ v.toNatClampNeg)).2, a.2.2))
theorem runAt_iff {NF : Nat} {NP : Nat} {st : Nat → Nat} {k f : Nat} (h : runAt NF NP st k f = true) : f % 2 ^ k = 0 ∧ f + 2 ^ k ≤ NF ∧ ∀ j, j < 2 ^ k → st (f + j) = 0 := by
  unfold runAt at h
  simp only [Bool.and_eq_true, decide_eq_true_eq, List.all_eq_true, List.mem_range] at h
  have p : 0 < 2 ^ k := Nat.two_pow_pos k
  refine ⟨h.1, ?_, fun j hj => (h.2 j hj).2⟩
  have := (h.2 (2 ^ k - 1) (by omega)).1
  omega
theorem pow_sh : ∀ k : Fin 7, (1 : Int32) <<< (Int32.ofNat k.val &&& 31) = Int32.ofNat (2 ^ k.val) := by decide +kernel
theorem alloc_ok {NF : Nat} {NP : Nat} {s : S} {a : Abs} (h : R NF NP s a) (v : Int32) : ∃ s', k_allocBlock v s = some ((aAlloc NF NP a v).1, s') ∧ R NF NP s' (aAlloc NF NP a v).2 := by
  have hN := h.dims
  unfold k_allocBlock aAlloc
  by_cases q0 : v < 0
  · rw [if_pos q0, if_pos q0]; exact ⟨s, rfl, h⟩
  rw [if_neg q0, if_neg q0]
  by_cases q1 : 6 < v
  · rw [if_pos q1, if_pos q1]; exact ⟨s, rfl, h⟩
  rw [if_neg q1, if_neg q1]
  obtain ⟨k, hk⟩ : ∃ k, k = v.toNatClampNeg := ⟨_, rfl⟩
  have ev : v = Int32.ofNat k := by rw [hk]; exact (eq_ofNat q0).1
  have k7 : k < 7 := by
    have := (eq_ofNat q0).2
    rw [← hk] at this
    rw [ev, show (6 : Int32) = Int32.ofNat 6 from rfl, ofNat_lt (by omega) (by omega)] at q1
    omega
  rw [← hk]
  obtain ⟨t, et, Rt, L2, lv⟩ := refresh_ok h
  have fr : k_freeRunsOfOrder v s = some (lev (gL s 2) k, t) := by
    unfold k_freeRunsOfOrder
    rw [if_neg q0, if_neg q1, et, Option.bind_some, ev, ix_ofNat _ (by omega), lv k k7, Option.bind_some]
  rw [fr, Option.bind_some]
  dsimp only
  obtain ⟨c, ls, G, RS', _⟩ := id Rt
  have hN := G.dims
  obtain ⟨t1, bm, t3, t4⟩ := id RS'
  rw [← L2]
  rcases lowRun_ok (NP := NP) (by omega) bm k7 with ⟨z1, z2⟩ | ⟨f, hf, z1, z2, z3, z4⟩
  · rw [if_pos z1, z2]; exact ⟨t, rfl, Rt⟩
  · obtain ⟨y1, y2, y3⟩ := runAt_iff z3
    rw [if_neg z1, z2, z4, inr_yes G.1 hf (by omega), if_neg (by decide)]
    dsimp only
    obtain ⟨s', es, Rs⟩ := reserve_loop y2 y3 (2 ^ k) 0 t BIG (by omega) (by unfold BIG; omega) Rt
    unfold k_reserveRun
    rw [ev, pow_sh ⟨k, k7⟩]
    dsimp only
    rw [show (0 : Int32) = Int32.ofNat 0 from rfl, es, Option.bind_some]
    exact ⟨s', rfl, Rs⟩
theorem R.fx {NF : Nat} {NP : Nat} {s t : S} {a : Abs} (h : R NF NP s a) (F : Fx [7, 8, 9, 10] [] [] [] s t) : R NF NP t a := by
  have hN := h.dims
  obtain ⟨c, ls, G, RS', V, C, P, M, K⟩ := h
  have hN := G.dims
  obtain ⟨g0, g1, l0, k1, k2, l3, l4, l5, l6, l7, g6⟩ := id G
  obtain ⟨t1, t2, t3, t4⟩ := id RS'
  have oA : ∀ k, gA t k = gA s k := fun k => F.2.2.1 k (by simp)
  have oB : ∀ k, gB t k = gB s k := fun k => F.2.2.2 k (by simp)
  have oL : ∀ k, gL t k = gL s k := fun k => F.2.1 k (by simp)
  exact ⟨c, ls, ⟨by rw [F.1 0 (by simp)]; exact g0, by rw [F.1 1 (by simp)]; exact g1, by rw [oA]; exact l0, by rw [oA]; exact k1, by rw [oA]; exact k2, by rw [oA]; exact l3, by rw [oA]; exact l4, by rw [oA]; exact l5, by rw [oA]; exact l6, by rw [oB]; exact l7, by rw [F.1 6 (by simp)]; exact g6⟩, ⟨by rw [oA]; exact t1, by rw [oL]; exact t2, by rw [oL]; exact t3, by rw [oL, oB, F.1 6 (by simp)]; exact t4⟩, fun g hg => by rw [oA]; exact V g hg, fun g hg => by rw [oA]; exact C g hg, fun g hg => by rw [oA]; exact P g hg, fun g hg => by rw [oA, oA, oA]; exact M g hg, K⟩
def mig (NF NP : Nat) (st : Nat → Nat) (lo hi : Nat) : Nat := if lo < hi then ((List.range NF).find? fun f => decide (lo ≤ f) && decide (f < hi) && decide (st f = 1)).getD hi else lo
def fret (NF NP : Nat) (st : Nat → Nat) (lo hi : Nat) : Nat := if lo < hi then (((List.range NF).find? fun i => decide (lo < NF - 1 - i) && decide (NF - 1 - i ≤ hi) && decide (st (NF - 1 - i) = 0)).map fun i => NF - 1 - i).getD lo else hi
theorem mig_spec {NF : Nat} {NP : Nat} (st : Nat → Nat) {lo hi : Nat} (h : lo < hi) (hh : hi ≤ NF) : (mig NF NP st lo hi = hi ∧ ∀ f, lo ≤ f → f < hi → st f ≠ 1) ∨ (lo ≤ mig NF NP st lo hi ∧ mig NF NP st lo hi < hi ∧ st (mig NF NP st lo hi) = 1 ∧ ∀ f, lo ≤ f → f < mig NF NP st lo hi → st f ≠ 1) := by
  unfold mig
  rw [if_pos h]
  cases e : (List.range NF).find? fun f => decide (lo ≤ f) && decide (f < hi) && decide (st f = 1) with
  | none =>
    left
    rw [List.find?_range_eq_none] at e
    refine ⟨rfl, fun f h1 h2 q => ?_⟩
    have := e f (by omega)
    simp [h1, h2, q] at this
  | some m =>
    right
    rw [List.find?_range_eq_some] at e
    obtain ⟨e1, e2, e3⟩ := e
    simp only [Bool.and_eq_true, decide_eq_true_eq] at e1
    refine ⟨e1.1.1, e1.1.2, e1.2, fun f h1 h2 q => ?_⟩
    have h2' : f < m := h2
    have := e3 f h2'
    simp [h1, q] at this
    omega
theorem ret_spec {NF : Nat} {NP : Nat} (st : Nat → Nat) {lo hi : Nat} (h : lo < hi) (hh : hi < NF) : (fret NF NP st lo hi = lo ∧ ∀ f, lo < f → f ≤ hi → st f ≠ 0) ∨ (lo < fret NF NP st lo hi ∧ fret NF NP st lo hi ≤ hi ∧ st (fret NF NP st lo hi) = 0 ∧ ∀ f, fret NF NP st lo hi < f → f ≤ hi → st f ≠ 0) := by
  unfold fret
  rw [if_pos h]
  cases e : (List.range NF).find? fun i => decide (lo < NF - 1 - i) && decide (NF - 1 - i ≤ hi) && decide (st (NF - 1 - i) = 0) with
  | none =>
    left
    rw [List.find?_range_eq_none] at e
    refine ⟨rfl, fun f h1 h2 q => ?_⟩
    have := e (NF - 1 - f) (by omega)
    rw [show NF - 1 - (NF - 1 - f) = f by omega] at this
    simp [h1, h2, q] at this
  | some m =>
    right
    rw [List.find?_range_eq_some] at e
    obtain ⟨e1, e2, e3⟩ := e
    have e2' := List.mem_range.mp e2
    simp only [Bool.and_eq_true, decide_eq_true_eq] at e1
    refine ⟨e1.1.1, e1.1.2, e1.2, fun f h1 h2 q => ?_⟩
    have h1' : NF - 1 - m < f := h1
    have := e3 (NF - 1 - f) (by omega)
    rw [show NF - 1 - (NF - 1 - f) = f by omega] at this
    simp [h2, q] at this
    omega
theorem adv_ok {NF : Nat} {NP : Nat} {s : S} {a : Abs} (h : R NF NP s a) {lo hi : Nat} (hl : lo ≤ NF) (hh : hi < NF) (e9 : gI s 9 = Int32.ofNat lo) (e10 : gI s 10 = Int32.ofNat hi) : ∃ t, k_advanceMigrateScanner s = t ∧ Fx [7, 8, 9, 10] [] [] [] s t ∧ gI t 9 = Int32.ofNat (mig NF NP a.1 lo hi) ∧ gI t 10 = gI s 10 ∧ gI t 8 = gI s 8 ∧ gI t 7 = gI s 7 := by
  have hN := h.dims
  obtain ⟨c, ls, G, RS', _⟩ := h
  obtain ⟨t1, t2, bm, t4⟩ := RS'
  unfold k_advanceMigrateScanner
  rw [e9, e10]
  by_cases q : lo < hi
  · rw [if_pos ((ofNat_lt (by omega) (by omega)).mpr q)]
    have bits : ∀ f, f < 64 → bl (gL s 3 &&& k_rangeMask (Int32.ofNat lo) (Int32.ofNat hi)) f = (decide (f < NF ∧ a.1 f = 1) && decide (lo ≤ f ∧ f < hi)) := fun f hf => by
      rw [bl_and, bm f hf, rng_bit (by omega) (by omega) hf]
    by_cases z : gL s 3 &&& k_rangeMask (Int32.ofNat lo) (Int32.ofNat hi) = 0
    · rw [if_pos z]
      refine ⟨_, rfl, (Fx.refl ..).sI (by simp), ?_, by simp [gI_sI, e10], by simp [gI_sI], by simp [gI_sI]⟩
      rw [gI_sI, if_pos rfl]
      rcases mig_spec (NF := NF) (NP := NP) a.1 q (by omega) with ⟨y, _⟩ | ⟨y1, y2, y3, _⟩
      · rw [y]
      · have := bits (mig NF NP a.1 lo hi) (by omega)
        rw [z, bl_zero, decide_eq_true (show mig NF NP a.1 lo hi < NF ∧ a.1 (mig NF NP a.1 lo hi) = 1 from ⟨by omega, y3⟩), decide_eq_true (show lo ≤ mig NF NP a.1 lo hi ∧ mig NF NP a.1 lo hi < hi from ⟨y1, y2⟩)] at this
        cases this
    · rw [if_neg z]
      obtain ⟨g, g64, v1, v2, v4⟩ := low_ok z
      rw [v1]
      refine ⟨_, rfl, (Fx.refl ..).sI (by simp), ?_, by simp [gI_sI, e10], by simp [gI_sI], by simp [gI_sI]⟩
      rw [gI_sI, if_pos rfl]
      congr 1
      have b1 := bits g g64
      rw [v2] at b1
      simp only [Bool.true_eq, Bool.and_eq_true, decide_eq_true_eq] at b1
      rcases mig_spec (NF := NF) (NP := NP) a.1 q (by omega) with ⟨y, y'⟩ | ⟨y1, y2, y3, y4⟩
      · exact absurd b1.1.2 (y' _ b1.2.1 b1.2.2)
      · rcases Nat.lt_trichotomy g (mig NF NP a.1 lo hi) with w | w | w
        · exact absurd b1.1.2 (y4 _ b1.2.1 w)
        · exact w
        · have b2 := bits (mig NF NP a.1 lo hi) (by omega)
          rw [v4 _ w, decide_eq_true (show mig NF NP a.1 lo hi < NF ∧ a.1 (mig NF NP a.1 lo hi) = 1 from ⟨by omega, y3⟩), decide_eq_true (show lo ≤ mig NF NP a.1 lo hi ∧ mig NF NP a.1 lo hi < hi from ⟨y1, y2⟩)] at b2
          cases b2
  · rw [if_neg (fun e => q ((ofNat_lt (by omega) (by omega)).mp e))]
    refine ⟨s, rfl, Fx.refl .., ?_, e10, rfl, rfl⟩
    unfold mig; rw [if_neg q]; exact e9
theorem ret_ok {NF : Nat} {NP : Nat} {s : S} {a : Abs} (h : R NF NP s a) {lo hi : Nat} (hl : lo ≤ NF) (hh : hi < NF) (e9 : gI s 9 = Int32.ofNat lo) (e10 : gI s 10 = Int32.ofNat hi) : ∃ t, k_retreatFreeScanner s = t ∧ Fx [7, 8, 9, 10] [] [] [] s t ∧ gI t 10 = Int32.ofNat (fret NF NP a.1 lo hi) ∧ gI t 9 = gI s 9 ∧ gI t 8 = gI s 8 ∧ gI t 7 = gI s 7 := by
  have hN := h.dims
  obtain ⟨c, ls, G, RS', _⟩ := h
  obtain ⟨t1, bm, t3, t4⟩ := RS'
  unfold k_retreatFreeScanner
  rw [e9, e10]
  by_cases q : lo < hi
  · rw [if_pos ((ofNat_lt (by omega) (by omega)).mpr q), ofNat_succ, ofNat_succ]
    have bits : ∀ f, f < 64 → bl (gL s 2 &&& k_rangeMask (Int32.ofNat (lo + 1)) (Int32.ofNat (hi + 1))) f = (decide (f < NF ∧ a.1 f = 0) && decide (lo + 1 ≤ f ∧ f < hi + 1)) := fun f hf => by
      rw [bl_and, bm f hf, rng_bit (by omega) (by omega) hf]
    by_cases z : gL s 2 &&& k_rangeMask (Int32.ofNat (lo + 1)) (Int32.ofNat (hi + 1)) = 0
    · rw [if_pos z]
      refine ⟨_, rfl, (Fx.refl ..).sI (by simp), ?_, by simp [gI_sI, e9], by simp [gI_sI], by simp [gI_sI]⟩
      rw [gI_sI, if_pos rfl]
      rcases ret_spec (NF := NF) (NP := NP) a.1 q hh with ⟨y, _⟩ | ⟨y1, y2, y3, _⟩
      · rw [y]
      · have := bits (fret NF NP a.1 lo hi) (by omega)
        rw [z, bl_zero, decide_eq_true (show fret NF NP a.1 lo hi < NF ∧ a.1 (fret NF NP a.1 lo hi) = 0 from ⟨by omega, y3⟩), decide_eq_true (show lo + 1 ≤ fret NF NP a.1 lo hi ∧ fret NF NP a.1 lo hi < hi + 1 by omega)] at this
        cases this
    · rw [if_neg z]
      obtain ⟨g, g64, v1, v2, v4⟩ := high_ok z
      rw [v1]
      refine ⟨_, rfl, (Fx.refl ..).sI (by simp), ?_, by simp [gI_sI, e9], by simp [gI_sI], by simp [gI_sI]⟩
      rw [gI_sI, if_pos rfl]
      congr 1
      have b1 := bits g g64
      rw [v2] at b1
      simp only [Bool.true_eq, Bool.and_eq_true, decide_eq_true_eq] at b1
      rcases ret_spec (NF := NF) (NP := NP) a.1 q hh with ⟨y, y'⟩ | ⟨y1, y2, y3, y4⟩
      · exact absurd b1.1.2 (y' _ (by omega) (by omega))
      · rcases Nat.lt_trichotomy (fret NF NP a.1 lo hi) g with w | w | w
        · exact absurd b1.1.2 (y4 _ w (by omega))
        · exact w.symm
        · have b2 := bits (fret NF NP a.1 lo hi) (by omega)
          rw [v4 _ w, decide_eq_true (show fret NF NP a.1 lo hi < NF ∧ a.1 (fret NF NP a.1 lo hi) = 0 from ⟨by omega, y3⟩), decide_eq_true (show lo + 1 ≤ fret NF NP a.1 lo hi ∧ fret NF NP a.1 lo hi < hi + 1 by omega)] at b2
          cases b2
  · rw [if_neg (fun e => q ((ofNat_lt (by omega) (by omega)).mp e))]
    refine ⟨s, rfl, Fx.refl .., ?_, e9, rfl, rfl⟩
    unfold fret; rw [if_neg q]; exact e10
def aStep (a : Abs) (m f : Nat) : Abs := (aupd (aupd a.1 f 1) m 0, aupd (aupd a.2.1 f (a.2.1 m)) m 0, fun x => if a.2.2 x = some m then some f else a.2.2 x)
theorem con_step {NF : Nat} {NP : Nat} {a : Abs} {c : Nat → Nat} {ls : Nat → List Nat} (K : Con NF NP a c ls) {m f : Nat} (hm : m < NF) (hf : f < NF) (sm : a.1 m = 1) (sf : a.1 f = 0) : Con NF NP (aStep a m f) (aupd (aupd c f (c m)) m 0) (aupd (aupd ls f (ls m)) m []) := by
  obtain ⟨y1, y2⟩ := con_empty K hf (Or.inl sf)
  obtain ⟨D, q1, q2, q3, q4, q5⟩ := id K
  have ne : m ≠ f := fun e => by rw [e, sf] at sm; cases sm
  have cases3 : ∀ g, (g = m ∧ (aupd (aupd ls f (ls m)) m []) g = [] ∧ (aupd (aupd c f (c m)) m 0) g = 0) ∨ (g = f ∧ (aupd (aupd ls f (ls m)) m []) g = ls m ∧ (aupd (aupd c f (c m)) m 0) g = c m) ∨ (g ≠ m ∧ g ≠ f ∧ (aupd (aupd ls f (ls m)) m []) g = ls g ∧ (aupd (aupd c f (c m)) m 0) g = c g) := fun g => by
    unfold aupd
    by_cases e : g = m
    · left; simp [e]
    · by_cases e' : g = f
      · right; left; simp [e, e']
        exact ⟨fun q => absurd q.symm ne, fun q => absurd q.symm ne⟩
      · right; right; simp [e, e']
  refine ⟨⟨fun g hg => ?_, fun g g' z hg hg' p p' => ?_⟩, fun g hg => ?_, fun g z hg => ?_, fun z g p => ?_, fun g hg => ?_, fun g hg p => ?_⟩
  · rcases cases3 g with ⟨e, w, _⟩ | ⟨e, w, _⟩ | ⟨e, e', w, _⟩
    · rw [w]; exact List.nodup_nil
    · rw [w]; exact D.1 m hm
    · rw [w]; exact D.1 g hg
  · rcases cases3 g with ⟨e, w, _⟩ | ⟨e, w, _⟩ | ⟨e, e', w, _⟩
    · rw [w] at p; cases p
    · rw [w] at p
      rcases cases3 g' with ⟨d, w', _⟩ | ⟨d, w', _⟩ | ⟨d, d', w', _⟩
      · rw [w'] at p'; cases p'
      · rw [e, d]
      · rw [w'] at p'; exact absurd (D.2 m g' z hm hg' p p').symm d
    · rw [w] at p
      rcases cases3 g' with ⟨d, w', _⟩ | ⟨d, w', _⟩ | ⟨d, d', w', _⟩
      · rw [w'] at p'; cases p'
      · rw [w'] at p'; exact absurd (D.2 g m z hg hm p p') e
      · rw [w'] at p'; exact D.2 g g' z hg hg' p p'
  · rcases cases3 g with ⟨e, w, u⟩ | ⟨e, w, u⟩ | ⟨e, e', w, u⟩
    · rw [w, u]; rfl
    · rw [w, u]; exact q1 m hm
    · rw [w, u]; exact q1 g hg
  · show _ ↔ (if a.2.2 z = some m then some f else a.2.2 z) = some g
    rcases cases3 g with ⟨e, w, u⟩ | ⟨e, w, u⟩ | ⟨e, e', w, u⟩
    · rw [w]
      refine ⟨fun p => (nomatch p), fun p => ?_⟩
      by_cases r : a.2.2 z = some m
      · rw [if_pos r] at p; exact absurd (e ▸ (Option.some.inj p).symm) ne
      · rw [if_neg r, e] at p; exact absurd p r
    · rw [w, q2 m z hm]
      by_cases r : a.2.2 z = some m
      · rw [if_pos r, e]; simp [r]
      · rw [if_neg r]
        refine ⟨fun p => absurd p r, fun p => ?_⟩
        rw [e] at p
        have := (q2 f z hf).mpr p
        rw [y1] at this; cases this
    · rw [w, q2 g z hg]
      by_cases r : a.2.2 z = some m
      · rw [if_pos r, r]
        exact ⟨fun p => absurd (Option.some.inj p).symm e, fun p => absurd (Option.some.inj p).symm e'⟩
      · rw [if_neg r]
  · change (if a.2.2 z = some m then some f else a.2.2 z) = some g at p
    by_cases r : a.2.2 z = some m
    · rw [if_pos r] at p; cases p; exact ⟨hf, (q3 z m r).2⟩
    · rw [if_neg r] at p; exact q3 z g p
  · show 0 < (aupd (aupd c f (c m)) m 0) g ↔ ((aupd (aupd a.1 f 1) m 0) g = 1 ∨ (aupd (aupd a.1 f 1) m 0) g = 2)
    rcases cases3 g with ⟨e, w, u⟩ | ⟨e, w, u⟩ | ⟨e, e', w, u⟩
    · rw [u]; unfold aupd; rw [if_pos e]; simp
    · rw [u]; unfold aupd; rw [if_neg (fun q => ne (q.symm.trans e)), if_pos e]
      exact ⟨fun _ => Or.inl rfl, fun _ => (q4 m hm).mpr (Or.inl sm)⟩
    · rw [u]; unfold aupd; rw [if_neg e, if_neg e']; exact q4 g hg
  · change (aupd (aupd a.1 f 1) m 0) g = 0 ∨ (aupd (aupd a.1 f 1) m 0) g = 3 at p
    show (aupd (aupd a.2.1 f (a.2.1 m)) m 0) g = 0
    unfold aupd at p ⊢
    by_cases e : g = m
    · rw [if_pos e]
    · rw [if_neg e] at p ⊢
      by_cases e' : g = f
      · rw [if_pos e'] at p; omega
      · rw [if_neg e'] at p ⊢; exact q5 g hg p
theorem migrate_ok {NF : Nat} {NP : Nat} {s : S} {a : Abs} (h : R NF NP s a) {m f : Nat} (hm : m < NF) (hf : f < NF) (sm : a.1 m = 1) (sf : a.1 f = 0) : ∃ s', k_migrateFrame (Int32.ofNat m) (Int32.ofNat f) s = some s' ∧ R NF NP s' (aStep a m f) ∧ Fx [6] [2, 3, 4, 5] [0, 1, 2, 3, 4] [] s s' := by
  have hN := h.dims
  obtain ⟨c, ls, G, RS', V, C, P, M, K⟩ := id h
  have hN := G.dims
  obtain ⟨g0, g1, l0, k1, k2, l3, l4, l5, l6, l7, g6⟩ := id G
  obtain ⟨y1, y2⟩ := con_empty K hf (Or.inl sf)
  have CS := con_step K hm hf sm sf
  obtain ⟨D, q1, q2, q3, q4, q5⟩ := id K
  have ne : m ≠ f := fun e => by rw [e, sf] at sm; cases sm
  obtain ⟨u, eu, Fu, Gu, Ru⟩ := enter_ok G RS' hf (x := 1) (by omega)
  have uA : ∀ k, k ≠ 0 → gA u k = gA s k := fun k hk => Fu.2.2.1 k (by simpa using hk)
  obtain ⟨w, hw⟩ : ∃ w, w = sA (sA u 1 ((gA s 1).set f (a.2.1 m))) 2 ((gA s 2).set f (Int32.ofNat (c m))) := ⟨_, rfl⟩
  have wA : ∀ k, k ≠ 1 → k ≠ 2 → gA w k = gA u k := fun k a b => by rw [hw, gA_sA, if_neg b, gA_sA, if_neg a]
  have w1 : gA w 1 = (gA s 1).set f (a.2.1 m) := by rw [hw]; simp [gA_sA]
  have w2 : gA w 2 = (gA s 2).set f (Int32.ofNat (c m)) := by rw [hw]; simp [gA_sA]
  have Fw : Fx [] [] [1, 2, 3, 4, 5, 6] [] u w := by
    have F0 : Fx [] [] [1, 2, 3, 4, 5, 6] [] u u := Fx.refl ..
    rw [hw]; exact (F0.sA (by simp)).sA (by simp)
  have Fw' : Fx [6] [2, 3, 4, 5] [0, 1, 2, 3, 4] [] u w := by
    have F0 : Fx [6] [2, 3, 4, 5] [0, 1, 2, 3, 4] [] u u := Fx.refl ..
    rw [hw]; exact (F0.sA (by simp)).sA (by simp)
  have Gw : Geo NF NP w := Gu.same Fw (by rw [w1, List.length_set]; exact k1) (by rw [w2, List.length_set]; exact k2) (by rw [wA 3 (by decide) (by decide), uA 3 (by decide)]; exact l3) (by rw [wA 4 (by decide) (by decide), uA 4 (by decide)]; exact l4) (by rw [wA 5 (by decide) (by decide), uA 5 (by decide)]; exact l5) (by rw [wA 6 (by decide) (by decide), uA 6 (by decide)]; exact l6)
  have Cw : RC NF NP w (aupd c f (c m)) := fun g hg => by
    rw [w2]
    unfold aupd
    by_cases q : g = f
    · subst q; rw [List.getElem?_set_self (by omega), if_pos rfl]
    · rw [List.getElem?_set_ne (by omega), if_neg q]; exact C g hg
  have Vw : RV NF NP w (aupd a.2.1 f (a.2.1 m)) := fun g hg => by
    rw [w1]
    unfold aupd
    by_cases q : g = f
    · subst q; rw [List.getElem?_set_self (by omega), if_pos rfl]
    · rw [List.getElem?_set_ne (by omega), if_neg q]; exact V g hg
  have Pw : RP w a.2.2 := fun z hz => by rw [wA 3 (by decide) (by decide), uA 3 (by decide)]; exact P z hz
  have Mw : RM NF NP w ls := fun g hg => by rw [wA 4 (by decide) (by decide), wA 5 (by decide) (by decide), wA 6 (by decide) (by decide), uA 4 (by decide), uA 5 (by decide), uA 6 (by decide)]; exact M g hg
  obtain ⟨t, et, Ft, Gt, Pt, Mt⟩ := transfer_ok Gw Pw Mw D hm hf ne y1
  have Rt : RS NF NP t (aupd a.1 f 1) := by
    obtain ⟨t1, t2, t3, t4⟩ := Ru
    have F2 : Fx [] [] [1, 2, 3, 4, 5, 6] [] u t := Fw.trans (Ft.mono (by simp) (by simp) (by simp) (by simp))
    exact ⟨by rw [F2.2.2.1 0 (by simp)]; exact t1, by rw [F2.2.1 2 (by simp)]; exact t2, by rw [F2.2.1 3 (by simp)]; exact t3, by rw [F2.1 6 (by simp), F2.2.2.2 7 (by simp), F2.2.1 2 (by simp)]; exact t4⟩
  have Vt : RV NF NP t (aupd a.2.1 f (a.2.1 m)) := fun g hg => by rw [Ft.2.2.1 1 (by simp)]; exact Vw g hg
  have Ct : RC NF NP t (aupd c f (c m)) := fun g hg => by rw [Ft.2.2.1 2 (by simp)]; exact Cw g hg
  have Pt' : RP t (aStep a m f).2.2 := fun z hz => by
    rw [Pt z hz]
    show some (pcode (if z ∈ ls m then some f else a.2.2 z)) = some (pcode (if a.2.2 z = some m then some f else a.2.2 z))
    by_cases r : z ∈ ls m
    · rw [if_pos r, if_pos ((q2 m z hm).mp r)]
    · rw [if_neg r, if_neg (fun e => r ((q2 m z hm).mpr e))]
  obtain ⟨s', es, Fs, Gs, Rs, Vs, Cs, Ps, Ms⟩ := free_ok Gt Rt Vt Ct Pt' Mt hm (by unfold aupd; rw [if_pos rfl])
  refine ⟨s', ?_, ⟨_, _, Gs, Rs, Vs, Cs, Ps, Ms, CS⟩, ?_⟩
  · obtain ⟨z1, z2⟩ := RS'.1 m hm
    obtain ⟨z3, z4⟩ := RS'.1 f hf
    unfold k_migrateFrame
    rw [inr_yes g0 hm (by omega), if_neg (by decide), inr_yes g0 hf (by omega), if_neg (by decide), ix_ofNat _ (by omega), z2, Option.bind_some, sm, if_pos (show Int32.ofNat 1 = 1 from rfl), ix_ofNat _ (by omega), z4, Option.bind_some, sf, if_pos (show Int32.ofNat 0 = 0 from rfl), ix_ofNat _ (by omega), V m hm, Option.bind_some, ix_ofNat _ (by omega), C m hm, Option.bind_some, show (1 : Int32) = Int32.ofNat 1 from rfl, eu, Option.bind_some, uA 1 (by decide), uA 2 (by decide), st_ofNat _ _ (by omega) (by omega), Option.bind_some, st_ofNat _ _ (by omega) (by omega), Option.bind_some, ← hw, et, Option.bind_some, es, Option.bind_some]
  · exact ((Fu.mono (by simp) (by simp) (by simp) (by simp)).trans Fw').trans ((Ft.mono (by simp) (by simp) (by simp) (by simp)).trans (Fs.mono (by simp) (by simp) (by simp) (by simp)))
def aGo (NF NP : Nat) : Nat → Abs → Nat → Nat → Nat → Nat → Nat × Abs
  | 0, a, _, _, k, _ => (k, a)
  | n + 1, a, lo, hi, k, lim => if mig NF NP a.1 lo hi < fret NF NP a.1 (mig NF NP a.1 lo hi) hi ∧ k ≠ lim then aGo NF NP n (aStep a (mig NF NP a.1 lo hi) (fret NF NP a.1 (mig NF NP a.1 lo hi) hi)) (mig NF NP a.1 lo hi + 1) (fret NF NP a.1 (mig NF NP a.1 lo hi) hi - 1) (k + 1) lim else (k, a)
theorem scan {NF : Nat} {NP : Nat} {st : Nat → Nat} {lo hi : Nat} (hh : hi < NF) (w : mig NF NP st lo hi < fret NF NP st (mig NF NP st lo hi) hi) : lo ≤ mig NF NP st lo hi ∧ st (mig NF NP st lo hi) = 1 ∧ st (fret NF NP st (mig NF NP st lo hi) hi) = 0 ∧ fret NF NP st (mig NF NP st lo hi) hi ≤ hi ∧ lo < hi := by
  have lt : lo < hi := by
    rcases Nat.lt_or_ge lo hi with q | q
    · exact q
    · exfalso
      have e : mig NF NP st lo hi = lo := by unfold mig; rw [if_neg (by omega)]
      rw [e] at w
      have e2 : fret NF NP st lo hi = hi := by unfold fret; rw [if_neg (by omega)]
      omega
  have lt2 : mig NF NP st lo hi < hi := by
    rcases mig_spec (NF := NF) (NP := NP) st lt (by omega) with ⟨y, _⟩ | ⟨y1, y2, y3, _⟩
    · exfalso
      rw [y] at w
      have e2 : fret NF NP st hi hi = hi := by unfold fret; rw [if_neg (by omega)]
      omega
    · exact y2
  rcases mig_spec (NF := NF) (NP := NP) st lt (by omega) with ⟨y, _⟩ | ⟨y1, y2, y3, _⟩
  · omega
  rcases ret_spec (NF := NF) (NP := NP) st lt2 hh with ⟨y, _⟩ | ⟨z1, z2, z3, _⟩
  · omega
  exact ⟨y1, y3, z3, z2, lt⟩
theorem mig_le {NF : Nat} {NP : Nat} {st : Nat → Nat} {lo hi : Nat} (hl : lo ≤ NF) (hh : hi < NF) : mig NF NP st lo hi ≤ NF := by
  by_cases q : lo < hi
  · rcases mig_spec (NF := NF) (NP := NP) st q (by omega) with ⟨y, _⟩ | ⟨y1, y2, y3, _⟩ <;> omega
  · unfold mig; rw [if_neg q]; exact hl
theorem compact_loop {NF : Nat} {NP : Nat} : ∀ n s a lo hi k lim g N, R NF NP s a → hi < NF → lo ≤ NF → k ≤ lo → g ≤ lo → lim ≤ 64 → NF + 1 ≤ lo + n → n < N → gI s 9 = Int32.ofNat lo → gI s 10 = Int32.ofNat hi → gI s 8 = Int32.ofNat k → gI s 7 = Int32.ofNat lim → ∃ s', k_compact_34 N (Int32.ofNat g) s = some (Int32.ofNat (aGo NF NP n a lo hi k lim).1, s') ∧ R NF NP s' (aGo NF NP n a lo hi k lim).2
  | _, _, _, _, _, _, _, _, 0, _, _, _, _, _, _, _, h, _, _, _, _ => by omega
  | 0, _, _, _, _, _, _, _, N + 1, _, _, _, _, _, _, h, _, _, _, _, _ => by omega
  | n + 1, s, a, lo, hi, k, lim, g, N + 1, h, hh, hl, hk, hg, hlim, hn, hN, e9, e10, e8, e7 => by
    have hN := h.dims
    obtain ⟨t, et, Ft, t9, t10, t8, t7⟩ := adv_ok h hl hh e9 e10
    have Rt := h.fx Ft
    obtain ⟨u, eu, Fu, u10, u9, u8, u7⟩ := ret_ok Rt (mig_le hl hh) hh t9 (t10.trans e10)
    have Ru := Rt.fx Fu
    have ml : mig NF NP a.1 lo hi ≤ NF := mig_le hl hh
    have rl : fret NF NP a.1 (mig NF NP a.1 lo hi) hi ≤ NF := by
      by_cases q : mig NF NP a.1 lo hi < hi
      · rcases ret_spec (NF := NF) (NP := NP) a.1 q hh with ⟨y, _⟩ | ⟨y1, y2, y3, _⟩ <;> omega
      · unfold fret; rw [if_neg q]; omega
    rw [k_compact_34, if_neg (fun q => by rw [show (65 : Int32) = Int32.ofNat 65 from rfl, ofNat_lt (by omega) (by omega)] at q; omega), et, eu]
    unfold k_scannersDone
    rw [u9, t9, u10, u8, t8, e8, u7, t7, e7, aGo]
    by_cases w : mig NF NP a.1 lo hi < fret NF NP a.1 (mig NF NP a.1 lo hi) hi
    · rw [if_pos ((ofNat_lt (by omega) (by omega)).mpr w)]
      by_cases z : k = lim
      · rw [if_pos ((enc_inj (by omega) (by omega)).mpr z), if_neg (by decide), if_neg (by omega)]
        exact ⟨u, rfl, Ru⟩
      · rw [if_neg (show ¬ Int32.ofNat k = Int32.ofNat lim from fun q => z ((enc_inj (by omega) (by omega)).mp q)), if_pos rfl, if_pos ⟨w, z⟩]
        obtain ⟨s1, s2, s3, s4, s5⟩ := scan hh w
        obtain ⟨v, ev, Rv, Fv⟩ := migrate_ok Ru (m := mig NF NP a.1 lo hi) (f := fret NF NP a.1 (mig NF NP a.1 lo hi) hi) (by omega) (by omega) s2 s3
        rw [ev, Option.bind_some, ofNat_succ, Fv.1 8 (by simp), u8, t8, e8, Fv.1 9 (by simp), u9, t9, Fv.1 10 (by simp), u10, ofNat_succ, ofNat_succ]
        have sub : Int32.ofNat (fret NF NP a.1 (mig NF NP a.1 lo hi) hi) - 1 = Int32.ofNat (fret NF NP a.1 (mig NF NP a.1 lo hi) hi - 1) := by
          have := ofNat_succ (fret NF NP a.1 (mig NF NP a.1 lo hi) hi - 1)
          rw [show fret NF NP a.1 (mig NF NP a.1 lo hi) hi - 1 + 1 = fret NF NP a.1 (mig NF NP a.1 lo hi) hi by omega] at this
          rw [← this]; simp
        rw [sub]
        have F0 : Fx [7, 8, 9, 10] [] [] [] v v := Fx.refl ..
        exact compact_loop n _ _ _ _ _ _ _ N (Rv.fx (((F0.sI (by simp)).sI (by simp)).sI (by simp))) (by omega) (by omega) (by omega) (by omega) hlim (by omega) (by omega) (by simp [gI_sI]) (by simp [gI_sI]) (by simp [gI_sI]) (by simp [gI_sI, Fv.1 7 (by simp), u7, t7, e7])
    · rw [if_neg (fun q => w ((ofNat_lt (by omega) (by omega)).mp q)), if_neg (by decide), if_neg (fun q => w q.1)]
      exact ⟨u, rfl, Ru⟩
def lim64 (v : Int32) : Nat := if v < 0 then 0 else if 64 < v then 64 else v.toNatClampNeg
theorem lim64_ok (v : Int32) : k_clampInt v 0 64 = Int32.ofNat (lim64 v) ∧ lim64 v ≤ 64 := by
  unfold k_clampInt lim64
  by_cases q : v < 0
  · rw [if_pos q, if_pos q]; exact ⟨rfl, by omega⟩
  · rw [if_neg q, if_neg q]
    by_cases w : 64 < v
    · rw [if_pos w, if_pos w]; exact ⟨rfl, by omega⟩
    · rw [if_neg w, if_neg w]
      obtain ⟨e, l⟩ := eq_ofNat q
      refine ⟨e, ?_⟩
      rw [e, show (64 : Int32) = Int32.ofNat 64 from rfl, ofNat_lt (by omega) l] at w
      omega
def aCompact (NF NP : Nat) (a : Abs) (v : Int32) : Int32 × Abs := (Int32.ofNat (aGo NF NP (NF + 1) a 0 (NF - 1) 0 (lim64 v)).1, (aGo NF NP (NF + 1) a 0 (NF - 1) 0 (lim64 v)).2)
theorem compact_ok {NF : Nat} {NP : Nat} {s : S} {a : Abs} (h : R NF NP s a) (v : Int32) : ∃ s', k_compact v s = some ((aCompact NF NP a v).1, s') ∧ R NF NP s' (aCompact NF NP a v).2 := by
  have hN := h.dims
  unfold k_compact aCompact
  obtain ⟨c1, c2⟩ := lim64_ok v
  have g0 : gI s 0 = Int32.ofNat NF := by obtain ⟨c, ls, G, _⟩ := h; exact G.1
  have F0 : Fx [7, 8, 9, 10] [] [] [] s s := Fx.refl ..
  have sb : Int32.ofNat NF - 1 = Int32.ofNat (NF - 1) := by
    have := ofNat_succ (NF - 1)
    rw [show NF - 1 + 1 = NF by omega] at this
    rw [← this]; simp
  rw [c1, g0, sb]
  exact compact_loop (NF + 1) _ a 0 (NF - 1) 0 (lim64 v) 0 BIG (h.fx ((((F0.sI (by simp)).sI (by simp)).sI (by simp)).sI (by simp))) (by omega) (by omega) (by omega) (by omega) c2 (by omega) (by unfold BIG; omega) (by simp [gI_sI]) (by simp [gI_sI]) (by simp [gI_sI]) (by simp [gI_sI])
theorem R.g0 {NF : Nat} {NP : Nat} {s : S} {a : Abs} (h : R NF NP s a) : gI s 0 = Int32.ofNat NF := by obtain ⟨c, ls, G, _⟩ := h; exact G.1
def aState (NF NP : Nat) (a : Abs) (v : Int32) : Int32 := match aFrame NF NP v with
  | none => -1
  | some f => Int32.ofNat (a.1 f)
theorem frameState_ok {NF : Nat} {NP : Nat} {s : S} {a : Abs} (h : R NF NP s a) (v : Int32) : k_frameState v s = some (aState NF NP a v) := by
  have hN := h.dims
  unfold k_frameState aState
  rcases frame_cases h.g0 (by omega) v with ⟨n1, n2⟩ | ⟨f, hf, ev, n1, n2⟩
  · rw [n1, n2, if_pos rfl]
  · obtain ⟨c, ls, G, RS', _⟩ := h
    rw [n1, n2, if_neg (by decide), ev, ix_ofNat _ (by omega), (RS'.1 f hf).2, Option.bind_some]
def aValue (NF NP : Nat) (a : Abs) (v : Int32) : Int32 := match aFrame NF NP v with
  | none => 0
  | some f => a.2.1 f
theorem frameValue_ok {NF : Nat} {NP : Nat} {s : S} {a : Abs} (h : R NF NP s a) (v : Int32) : k_frameValue v s = some (aValue NF NP a v) := by
  have hN := h.dims
  unfold k_frameValue aValue
  rcases frame_cases h.g0 (by omega) v with ⟨n1, n2⟩ | ⟨f, hf, ev, n1, n2⟩
  · rw [n1, n2, if_pos rfl]
  · obtain ⟨c, ls, G, RS', V, C, P, M, K⟩ := h
    obtain ⟨D, q1, q2, q3, q4, q5⟩ := id K
    obtain ⟨z1, z2⟩ := RS'.1 f hf
    rw [n1, n2, if_neg (by decide), ev, ix_ofNat _ (by omega), z2, Option.bind_some]
    dsimp only
    by_cases e : a.1 f = 0
    · rw [e, if_pos (show Int32.ofNat 0 = 0 from rfl), q5 f hf (Or.inl e)]
    rw [if_neg (show ¬ Int32.ofNat (a.1 f) = 0 from fun q => e ((enc_inj (by omega) (by omega)).mp q))]
    by_cases e3 : a.1 f = 3
    · rw [e3, if_pos (show Int32.ofNat 3 = 3 from rfl), q5 f hf (Or.inr e3)]
    rw [if_neg (show ¬ Int32.ofNat (a.1 f) = 3 from fun q => e3 ((enc_inj (by omega) (by omega)).mp q)), ix_ofNat _ (by omega), V f hf, Option.bind_some]
def aCnt (a : Abs) (f : Nat) : Nat := (List.range 64).countP fun x => decide (a.2.2 x = some f)
theorem nodup_filter (p : Nat → Bool) : ∀ {l : List Nat}, l.Nodup → (l.filter p).Nodup := fun h => List.Nodup.sublist List.filter_sublist h
theorem len_count {l : List Nat} (nd : l.Nodup) {n : Nat} {p : Nat → Bool} (h : ∀ x, x ∈ l ↔ (x < n ∧ p x = true)) : l.length = (List.range n).countP p := by
  rw [List.countP_eq_length_filter]
  apply List.Perm.length_eq
  refine (List.perm_ext_iff_of_nodup nd (nodup_filter _ List.nodup_range)).mpr fun x => ?_
  rw [h x, List.mem_filter, List.mem_range]
theorem con_cnt {NF : Nat} {NP : Nat} {a : Abs} {c : Nat → Nat} {ls : Nat → List Nat} (K : Con NF NP a c ls) {f : Nat} (hf : f < NF) : c f = aCnt a f := by
  obtain ⟨D, q1, q2, q3, q4, q5⟩ := id K
  rw [q1 f hf]
  refine len_count (D.1 f hf) fun x => ?_
  rw [q2 f x hf, decide_eq_true_eq]
  exact ⟨fun e => ⟨(q3 x f e).2.1, e⟩, fun e => e.2⟩
def aCount (NF NP : Nat) (a : Abs) (v : Int32) : Int32 := match aFrame NF NP v with
  | none => 0
  | some f => Int32.ofNat (aCnt a f)
theorem mapCount_ok {NF : Nat} {NP : Nat} {s : S} {a : Abs} (h : R NF NP s a) (v : Int32) : k_mapCount v s = some (aCount NF NP a v) := by
  have hN := h.dims
  unfold k_mapCount aCount
  rcases frame_cases h.g0 (by omega) v with ⟨n1, n2⟩ | ⟨f, hf, ev, n1, n2⟩
  · rw [n1, n2, if_pos rfl]
  · obtain ⟨c, ls, G, RS', V, C, P, M, K⟩ := h
    rw [n1, n2, if_neg (by decide), ev, ix_ofNat _ (by omega), C f hf, Option.bind_some, con_cnt K hf]
def aFree (NF NP : Nat) (a : Abs) : Nat := (List.range NF).countP fun f => decide (a.1 f = 0)
theorem freeCount_ok {NF : Nat} {NP : Nat} {s : S} {a : Abs} (h : R NF NP s a) : k_freeCount s = Int32.ofNat (aFree NF NP a) := by
  have hN := h.dims
  obtain ⟨c, ls, G, RS', V, C, P, M, K⟩ := h
  obtain ⟨t1, bm, t3, t4⟩ := RS'
  have hN := G.dims
  unfold k_freeCount aFree
  rw [count_ok]
  congr 1
  have sp : List.range 64 = List.range NF ++ List.range' NF (64 - NF) := by
    have := List.range'_append (s := 0) (m := NF) (n := 64 - NF) (step := 1)
    rw [Nat.zero_add, Nat.one_mul, show NF + (64 - NF) = 64 by omega] at this
    rw [List.range_eq_range', List.range_eq_range']
    exact this.symm
  rw [sp, List.countP_append]
  have z : (List.range' NF (64 - NF)).countP (fun y => bl (gL s 2) y) = 0 := by
    rw [List.countP_eq_zero]
    intro y hy
    have hy := List.mem_range'_1.mp hy
    rw [bm y (by omega), decide_eq_false (by omega)]
    decide
  rw [z, Nat.add_zero]
  apply List.countP_congr
  intro f hf
  have hf := List.mem_range.mp hf
  rw [bm f (by omega)]
  simp [hf]
def a0 : Abs := (fun _ => 0, fun _ => 0, fun _ => none)
theorem rep_get {A : Type} {n i : Nat} (x : A) (h : i < n) : (rep n x)[i]? = some x := by unfold rep; rw [List.getElem?_replicate, if_pos h]
theorem init_R {NF : Nat} {NP : Nat} {v1 v2 : Int32} (n8 : 8 ≤ NF) (n64 : NF ≤ 64) (p4 : 4 ≤ NP) (p16 : NP ≤ 16) (c1 : k_clampInt v1 8 64 = Int32.ofNat NF) (c2 : k_clampInt v2 4 16 = Int32.ofNat NP) : ∃ s, k_init v1 v2 = some s ∧ R NF NP s a0 := by
  obtain ⟨t, e, r0, r1, r2, r3, r4, r5, r6, A0, A1, A2, A3, A4, A5, A6, B7⟩ := own_reset (N := NF) (P := NP) (sI (sI (sB (sA (sA (sA (sA (sA (sA (sA s0 0 (rep 64 0)) 1 (rep 64 0)) 2 (rep 64 0)) 3 (rep 64 0)) 4 (rep 64 0)) 5 (rep 64 0)) 6 (rep 64 0)) 7 (rep 7 0)) 0 (k_clampInt v1 (8 : Int32) (64 : Int32))) 1 (k_clampInt v2 (4 : Int32) (16 : Int32))) (by simp [gI_sI, c1]) (by simp [gI_sI, c2]) (by
    intro f hf
    simp only [gA_sI, gA_sB, gA_sA]
    match f, hf with
    | 0, _ => exact rep_length 64 _
    | 1, _ => exact rep_length 64 _
    | 2, _ => exact rep_length 64 _
    | 3, _ => exact rep_length 64 _
    | 4, _ => exact rep_length 64 _
    | 5, _ => exact rep_length 64 _
    | 6, _ => exact rep_length 64 _) (by simp only [gB_sI, gB_sB]; exact rep_length 7 _)
  refine ⟨t, by unfold k_init; rw [e]; rfl, fun _ => 0, fun _ => [], ⟨r0, r1, by rw [A0]; simp [rep], by rw [A1]; simp [rep], by rw [A2]; simp [rep], by rw [A3]; simp [rep], by rw [A4]; simp [rep], by rw [A5]; simp [rep], by rw [A6]; simp [rep], B7, Or.inr r6, n8, n64, p4, p16⟩, ⟨fun f hf => ⟨by show 0 ≤ 3; omega, ?_⟩, fun y hy => ?_, fun y hy => ?_, fun q => ?_⟩, fun f hf => ?_, fun f hf => ?_, fun x hx => ?_, fun f hf => ⟨-1, ?_, ?_⟩, ⟨fun f hf => List.nodup_nil, fun f g x _ _ q _ => nomatch q⟩, fun f hf => rfl, fun f x hf => ?_, fun x f q => ?_, fun f hf => ?_, fun f hf q => rfl⟩
  · rw [A0, rep_get _ (by omega)]; rfl
  · rw [r2, show bl (k_lowMask (Int32.ofNat NF)) y = _ from lowMask_bit ⟨NF, by omega⟩ ⟨y, hy⟩]
    show decide (y < NF) = decide (y < NF ∧ (0 : Nat) = 0)
    exact decide_eq_decide.mpr ⟨fun z => ⟨z, rfl⟩, fun z => z.1⟩
  · rw [r3, bl_zero]
    show false = decide (y < NF ∧ (0 : Nat) = 1)
    exact (decide_eq_false (fun z => absurd z.2 (by decide))).symm
  · rw [r6] at q; cases q
  · rw [A1, rep_get _ (by omega)]; rfl
  · rw [A2, rep_get _ (by omega)]; rfl
  · rw [A3, rep_get _ (by omega)]; rfl
  · rw [A4, rep_get _ (by omega)]
  · rfl
  · exact ⟨fun q => (nomatch q), fun q => by cases q⟩
  · cases q
  · exact ⟨fun q => absurd q (Nat.lt_irrefl 0), fun q => by rcases q with q | q <;> cases q⟩
/-- what compaction keeps of a -/
def Kp (NF NP : Nat) (a b : Abs) (k lo hi : Nat) : Prop := (∀ x, lo ≤ x → x ≤ hi → b.1 x = a.1 x) ∧ (∀ x, (a.1 x = 2 ∨ a.1 x = 3) → b.1 x = a.1 x ∧ b.2.1 x = a.2.1 x ∧ ∀ z, b.2.2 z = some x ↔ a.2.2 z = some x) ∧ (∀ z, b.2.2 z = none ↔ a.2.2 z = none) ∧ (∀ z f g, a.2.2 z = some f → b.2.2 z = some g → b.2.1 g = a.2.1 f) ∧ (∀ z y, b.2.2 z = b.2.2 y ↔ a.2.2 z = a.2.2 y) ∧ (List.range NF).countP (fun x => decide (a.1 x = 1) && decide (b.1 x = 0)) = k ∧ (List.range NF).countP (fun x => decide (b.1 x = 0)) = (List.range NF).countP (fun x => decide (a.1 x = 0)) ∧ (∀ z f, b.2.2 z = some f → b.1 f = 1 ∨ b.1 f = 2)
theorem Kp.refl {NF NP : Nat} {a : Abs} (w : ∀ z f, a.2.2 z = some f → a.1 f = 1 ∨ a.1 f = 2) (lo hi : Nat) : Kp NF NP a a 0 lo hi := by
  refine ⟨fun _ _ _ => rfl, fun _ _ => ⟨rfl, rfl, fun _ => Iff.rfl⟩, fun _ => Iff.rfl, fun z f g e1 e2 => ?_, fun _ _ => Iff.rfl, ?_, rfl, w⟩
  · rw [e1] at e2; cases e2; rfl
  · rw [List.countP_eq_zero]
    intro x _ h
    simp only [Bool.and_eq_true, decide_eq_true_eq] at h
    omega
theorem cnt_one {p q : Nat → Bool} {m : Nat} (hp : p m = false) (hq : q m = true) (e : ∀ x, x ≠ m → q x = p x) : ∀ n, m < n → (List.range n).countP q = (List.range n).countP p + 1
  | 0, h => by omega
  | n + 1, h => by
    rw [List.range_succ, List.countP_append, List.countP_append, List.countP_cons, List.countP_cons, List.countP_nil, List.countP_nil]
    by_cases w : m = n
    · subst w
      have : (List.range m).countP q = (List.range m).countP p := by
        apply List.countP_congr
        intro x hx
        rw [e x (by have := List.mem_range.mp hx; omega)]
      rw [this, hp, hq]
      simp
    · have ih := cnt_one hp hq e n (by omega)
      rw [ih, e n (fun z => w z.symm)]
      omega
theorem Kp.step {NF NP : Nat} {a b : Abs} {k lo hi m f : Nat} (h : Kp NF NP a b k lo hi) (h1 : lo ≤ m) (h2 : m < f) (h3 : f ≤ hi) (h4 : hi < NF) (sm : b.1 m = 1) (sf : b.1 f = 0) : Kp NF NP a (aStep b m f) (k + 1) (m + 1) (f - 1) := by
  obtain ⟨i1, i2, i3, i4, i5, i6, i7, i8⟩ := h
  have am : a.1 m = 1 := by rw [← i1 m h1 (by omega)]; exact sm
  have af : a.1 f = 0 := by rw [← i1 f (by omega) h3]; exact sf
  have st : ∀ x, (aStep b m f).1 x = if x = m then 0 else if x = f then 1 else b.1 x := fun x => by
    show aupd (aupd b.1 f 1) m 0 x = _
    unfold aupd
    rfl
  have vl : ∀ x, (aStep b m f).2.1 x = if x = m then 0 else if x = f then b.2.1 m else b.2.1 x := fun x => by
    show aupd (aupd b.2.1 f (b.2.1 m)) m 0 x = _
    unfold aupd
    rfl
  have pf : ∀ z, (aStep b m f).2.2 z = if b.2.2 z = some m then some f else b.2.2 z := fun z => rfl
  have nf : ∀ z, b.2.2 z ≠ some f := fun z e => by have := i8 z f e; omega
  have inj : ∀ z y, (aStep b m f).2.2 z = (aStep b m f).2.2 y ↔ b.2.2 z = b.2.2 y := fun z y => by
    rw [pf, pf]
    by_cases c1 : b.2.2 z = some m
    · rw [if_pos c1]
      by_cases c2 : b.2.2 y = some m
      · rw [if_pos c2, c1, c2]; exact ⟨fun _ => rfl, fun _ => rfl⟩
      · rw [if_neg c2, c1]
        exact ⟨fun e => absurd e.symm (nf y), fun e => absurd e.symm c2⟩
    · rw [if_neg c1]
      by_cases c2 : b.2.2 y = some m
      · rw [if_pos c2, c2]
        exact ⟨fun e => absurd e (nf z), fun e => absurd e c1⟩
      · rw [if_neg c2]
  refine ⟨fun x x1 x2 => ?_, fun x hx => ?_, fun z => ?_, fun z g g' e1 e2 => ?_, fun z y => (inj z y).trans (i5 z y), ?_, ?_, fun z g e => ?_⟩
  · rw [st, if_neg (by omega), if_neg (by omega)]; exact i1 x (by omega) (by omega)
  · have n1 : x ≠ m := fun e => by rw [e, am] at hx; omega
    have n2 : x ≠ f := fun e => by rw [e, af] at hx; omega
    obtain ⟨j1, j2, j3⟩ := i2 x hx
    refine ⟨by rw [st, if_neg n1, if_neg n2]; exact j1, by rw [vl, if_neg n1, if_neg n2]; exact j2, fun z => ?_⟩
    rw [← j3 z, pf]
    by_cases c : b.2.2 z = some m
    · rw [if_pos c, c]
      exact ⟨fun e => absurd (Option.some.inj e).symm n2, fun e => absurd (Option.some.inj e).symm n1⟩
    · rw [if_neg c]
  · rw [← i3 z, pf]
    by_cases c : b.2.2 z = some m
    · rw [if_pos c, c]; exact ⟨fun e => (by cases e), fun e => (by cases e)⟩
    · rw [if_neg c]
  · rw [pf] at e2
    by_cases c : b.2.2 z = some m
    · rw [if_pos c] at e2
      cases e2
      rw [vl, if_neg (by omega), if_pos rfl]
      exact i4 z g m e1 c
    · rw [if_neg c] at e2
      have n1 : g' ≠ m := fun e => c (by rw [e2, e])
      have n2 : g' ≠ f := fun e => nf z (by rw [e2, e])
      rw [vl, if_neg n1, if_neg n2]
      exact i4 z g g' e1 e2
  · rw [← i6]
    refine cnt_one (m := m) ?_ ?_ (fun x hx => ?_) NF (by omega)
    · rw [sm]; simp
    · rw [st, if_pos rfl, am]; rfl
    · rw [st, if_neg hx]
      by_cases c : x = f
      · rw [if_pos c, c, sf, af]; rfl
      · rw [if_neg c]
  · rw [← i7]
    -- one bit goes, one comes
    have e1 : (List.range NF).countP (fun x => decide (b.1 x = 0)) = (List.range NF).countP (fun x => decide (b.1 x = 0) && !decide (x = f)) + 1 := cnt_one (m := f) (by simp) (by simp [sf]) (fun x hx => by simp [hx]) NF (by omega)
    have e2 : (List.range NF).countP (fun x => decide ((aStep b m f).1 x = 0)) = (List.range NF).countP (fun x => decide (b.1 x = 0) && !decide (x = f)) + 1 := cnt_one (m := m) (by simp [sm]) (by rw [st, if_pos rfl]; rfl) (fun x hx => by
      rw [st, if_neg hx]
      by_cases c : x = f
      · rw [if_pos c]; simp [c]
      · rw [if_neg c]; simp [c]) NF (by omega)
    rw [e1, e2]
  · rw [pf] at e
    by_cases c : b.2.2 z = some m
    · rw [if_pos c] at e
      cases e
      left; rw [st, if_neg (by omega), if_pos rfl]
    · rw [if_neg c] at e
      have n1 : g ≠ m := fun q => c (by rw [e, q])
      have n2 : g ≠ f := fun q => nf z (by rw [e, q])
      rw [st, if_neg n1, if_neg n2]; exact i8 z g e
theorem go_kp {NF NP : Nat} {a : Abs} (lim : Nat) : ∀ n (b : Abs) (lo hi k : Nat), hi < NF → k ≤ lim → Kp NF NP a b k lo hi → (∃ lo' hi', Kp NF NP a (aGo NF NP n b lo hi k lim).2 (aGo NF NP n b lo hi k lim).1 lo' hi') ∧ (aGo NF NP n b lo hi k lim).1 ≤ lim
  | 0, b, lo, hi, k, _, hk, h => ⟨⟨lo, hi, h⟩, hk⟩
  | n + 1, b, lo, hi, k, hh, hk, h => by
    rw [aGo]
    by_cases c : mig NF NP b.1 lo hi < fret NF NP b.1 (mig NF NP b.1 lo hi) hi ∧ k ≠ lim
    · rw [if_pos c]
      obtain ⟨s1, s2, s3, s4, s5⟩ := scan hh c.1
      exact go_kp lim n _ _ _ _ (by omega) (by omega) (h.step s1 c.1 s4 hh s2 s3)
    · rw [if_neg c]; exact ⟨⟨lo, hi, h⟩, hk⟩

theorem b_if {P Q : Prop} [Decidable P] [Decidable Q] (h : P ↔ Q) : (if P then (1 : Int32) else 0) = (if Q then (1 : Int32) else 0) := by
  by_cases p : P
  · rw [if_pos p, if_pos (h.mp p)]
  · rw [if_neg p, if_neg (fun q => p (h.mpr q))]
theorem pcode_inj {o p : Option Nat} (h : ∀ f, o = some f → f < 64) (k : ∀ f, p = some f → f < 64) : pcode o = pcode p ↔ o = p := by
  refine ⟨fun e => ?_, fun e => by rw [e]⟩
  cases o with
  | none =>
    cases p with
    | none => rfl
    | some g => exact absurd (show (-1 : Int32) < 0 by decide) (by rw [show (-1 : Int32) = Int32.ofNat g from e]; exact ofNat_nonneg (by have := k g rfl; omega))
  | some f =>
    cases p with
    | none => exact absurd (show (-1 : Int32) < 0 by decide) (by rw [show (-1 : Int32) = Int32.ofNat f from e.symm]; exact ofNat_nonneg (by have := h f rfl; omega))
    | some g => rw [(enc_inj (by have := h f rfl; omega) (by have := k g rfl; omega)).mp e]
theorem pcode_m1 {o : Option Nat} (h : ∀ f, o = some f → f < 64) : pcode o = (-1 : Int32) ↔ o = none := pcode_inj (p := none) h (fun _ e => nomatch e)
theorem pcode_at {o : Option Nat} (h : ∀ f, o = some f → f < 64) {j : Nat} (hj : j < 64) : pcode o = Int32.ofNat j ↔ o = some j := pcode_inj (p := some j) h (fun f e => by cases e; exact hj)
theorem R.used {NF NP : Nat} {s : S} {a : Abs} (h : R NF NP s a) (z f : Nat) (e : a.2.2 z = some f) : a.1 f = 1 ∨ a.1 f = 2 := by
  obtain ⟨c, ls, G, RS', V, C, P, M, D, q1, q2, q3, q4, q5⟩ := h
  have hf := (q3 z f e).1
  refine (q4 f hf).mp ?_
  rw [q1 f hf]
  exact List.length_pos_of_mem ((q2 f z hf).mpr e)
theorem R.le3 {NF NP : Nat} {s : S} {a : Abs} (h : R NF NP s a) {f : Nat} (hf : f < NF) : a.1 f ≤ 3 := by
  obtain ⟨c, ls, G, RS', _⟩ := h
  exact (RS'.1 f hf).1
theorem aFr_kp {NF NP : Nat} {a b : Abs} {k lo hi : Nat} (w : Kp NF NP a b k lo hi) (p v p' v' : Int32) : (aFr NF NP b p v = aFr NF NP b p' v' ↔ aFr NF NP a p v = aFr NF NP a p' v') ∧ (aFr NF NP b p v = none ↔ aFr NF NP a p v = none) ∧ aRead NF NP b p v = aRead NF NP a p v ∧ ∀ x, (a.1 x = 2 ∨ a.1 x = 3) → (aFr NF NP b p v = some x ↔ aFr NF NP a p v = some x) := by
  obtain ⟨i1, i2, i3, i4, i5, i6, i7, i8⟩ := w
  unfold aRead aFr
  refine ⟨?_, ?_, ?_, fun x hx => ?_⟩
  · cases aSlot NF NP p v with
    | none =>
      cases aSlot NF NP p' v' with
      | none => exact Iff.rfl
      | some y => dsimp only; rw [eq_comm, i3 y, eq_comm]
    | some z =>
      cases aSlot NF NP p' v' with
      | none => exact i3 z
      | some y => exact i5 z y
  · cases aSlot NF NP p v with
    | none => exact Iff.rfl
    | some z => exact i3 z
  · cases aSlot NF NP p v with
    | none => rfl
    | some z =>
      dsimp only
      cases hb : b.2.2 z with
      | none => rw [(i3 z).mp hb]
      | some g =>
        cases ha : a.2.2 z with
        | none => rw [(i3 z).mpr ha] at hb; cases hb
        | some f => exact i4 z f g ha hb
  · cases aSlot NF NP p v with
    | none => exact ⟨fun e => (nomatch e), fun e => (nomatch e)⟩
    | some z => exact (i2 x hx).2.2 z
theorem p_nz {NP : Nat} (h1 : 0 < NP) (h2 : NP < 1000) : ¬ Int32.ofNat NP = 0 := fun e => by
  have := (enc_inj (x := NP) (y := 0) h2 (by omega)).mp e
  omega
theorem same_if {A : Type} [DecidableEq A] {x y x' y' : Int32} {o p o' p' : Option Nat} (e1 : x = -1 ↔ o = none) (e2 : x' = -1 ↔ o' = none) (d1 : x = y ↔ o = p) (d2 : x' = y' ↔ o' = p') (n : o = none ↔ o' = none) (q : o = p ↔ o' = p') : (if x = (-1 : Int32) then (0 : Int32) else if x = y then (1 : Int32) else (0 : Int32)) = (if x' = (-1 : Int32) then (0 : Int32) else if x' = y' then (1 : Int32) else (0 : Int32)) := by
  by_cases c : o = none
  · rw [if_pos (e1.mpr c), if_pos (e2.mpr (n.mp c))]
  · rw [if_neg (fun z => c (e1.mp z)), if_neg (fun z => c (n.mpr (e2.mp z)))]
    exact b_if (d1.trans (q.trans d2.symm))
theorem loop_552 {NF NP : Nat} {s t : S} {a b : Abs} (h : R NF NP s b) (k : R NF NP t a) {m lo hi : Nat} (w : Kp NF NP a b m lo hi) (q : List Int32) (K : Int32 → Int32 → Int32 → List Int32 → S → S → Option (Int32 × S × S)) (v10 p v : Int32) : ∀ d j N, j + d = 4 * NP → d < N → law_552 K N (Int32.ofNat NP) (Int32.ofNat (4 * NP)) v10 (pcode (aFr NF NP b p v)) (pcode (aFr NF NP a p v)) (Int32.ofNat j) q s t = K (Int32.ofNat NP) (Int32.ofNat (4 * NP)) (v10 + 1) q s t
  | _, _, 0, _, h => by omega
  | 0, j, N + 1, hj, _ => by
    have hN := h.dims
    rw [law_552, if_neg (fun z => by have := (ofNat_lt (by omega) (by omega)).mp z; omega)]
  | d + 1, j, N + 1, hj, hd => by
    have hN := h.dims
    have lb : ∀ p v f, aFr NF NP b p v = some f → f < 64 := fun p v f e => by have := aFr_lt h e; omega
    have la : ∀ p v f, aFr NF NP a p v = some f → f < 64 := fun p v f e => by have := aFr_lt k e; omega
    have ih := loop_552 h k w q K v10 p v d (j + 1) N (by omega) (by omega)
    have nz := p_nz (NP := NP) (by omega) (by omega)
    rw [law_552, if_pos ((ofNat_lt (by omega) (by omega)).mpr (by omega)), if_neg nz, if_neg nz, frameOf_ok h, Option.bind_some, if_neg nz, if_neg nz, frameOf_ok k, Option.bind_some]
    generalize Int32.ofNat j / Int32.ofNat NP = p'
    generalize Int32.ofNat j % Int32.ofNat NP = v'
    obtain ⟨r1, r2, r3, r4⟩ := aFr_kp w p v p' v'
    unfold law_607 law_627
    rw [if_pos (same_if (A := Nat) (pcode_m1 (lb p v)) (pcode_m1 (la p v)) (pcode_inj (lb p v) (lb p' v')) (pcode_inj (la p v) (la p' v')) r2 r1), ofNat_succ]
    exact ih
theorem loop_509 {NF NP : Nat} {s t : S} {a b : Abs} (h : R NF NP s b) (k : R NF NP t a) {m lo hi : Nat} (w : Kp NF NP a b m lo hi) (q : List Int32) : ∀ d j N, j + d = 4 * NP → d < N → law_509 N (Int32.ofNat NP) (Int32.ofNat (4 * NP)) (Int32.ofNat j) q s t = some (1, s, t)
  | _, _, 0, _, h => by omega
  | 0, j, N + 1, hj, _ => by
    have hN := h.dims
    rw [law_509, if_neg (fun z => by have := (ofNat_lt (by omega) (by omega)).mp z; omega)]
  | d + 1, j, N + 1, hj, hd => by
    have hN := h.dims
    have ih := loop_509 h k w q d (j + 1) N (by omega) (by omega)
    have nz := p_nz (NP := NP) (by omega) (by omega)
    rw [law_509, if_pos ((ofNat_lt (by omega) (by omega)).mpr (by omega)), if_neg nz, if_neg nz, frameOf_ok h, Option.bind_some, if_neg nz, if_neg nz, frameOf_ok k, Option.bind_some, ofNat_succ, loop_552 h k w q _ (Int32.ofNat j) _ _ d (j + 1) BIG (by omega) (by unfold BIG; omega), ofNat_succ]
    exact ih
theorem loop_423 {NF NP : Nat} {s t : S} {a b : Abs} (h : R NF NP s b) (k : R NF NP t a) {m lo hi : Nat} (w : Kp NF NP a b m lo hi) (q : List Int32) (K : Int32 → Int32 → Int32 → Int32 → Int32 → Int32 → List Int32 → S → S → Option (Int32 × S × S)) (v1 v6 v9 : Int32) {x : Nat} (hx : x < NF) (sx : a.1 x = 2 ∨ a.1 x = 3) : ∀ d j N, j + d = 4 * NP → d < N → law_423 K N v1 (Int32.ofNat NP) v6 (Int32.ofNat (4 * NP)) v9 (Int32.ofNat x) (Int32.ofNat j) q s t = K v1 (Int32.ofNat NP) v6 (Int32.ofNat (4 * NP)) v9 (Int32.ofNat x + 1) q s t
  | _, _, 0, _, h => by omega
  | 0, j, N + 1, hj, _ => by
    have hN := h.dims
    rw [law_423, if_neg (fun z => by have := (ofNat_lt (by omega) (by omega)).mp z; omega)]
  | d + 1, j, N + 1, hj, hd => by
    have hN := h.dims
    have lb : ∀ p v f, aFr NF NP b p v = some f → f < 64 := fun p v f e => by have := aFr_lt h e; omega
    have la : ∀ p v f, aFr NF NP a p v = some f → f < 64 := fun p v f e => by have := aFr_lt k e; omega
    have ih := loop_423 h k w q K v1 v6 v9 hx sx d (j + 1) N (by omega) (by omega)
    have nz := p_nz (NP := NP) (by omega) (by omega)
    rw [law_423, if_pos ((ofNat_lt (by omega) (by omega)).mpr (by omega)), if_neg nz, if_neg nz, frameOf_ok h, Option.bind_some]
    generalize Int32.ofNat j / Int32.ofNat NP = p'
    generalize Int32.ofNat j % Int32.ofNat NP = v'
    obtain ⟨r1, r2, r3, r4⟩ := aFr_kp w p' v' p' v'
    unfold law_461 law_480
    rw [frameOf_ok k, Option.bind_some, if_pos (b_if ((pcode_at (lb p' v') (by omega)).trans ((r4 x sx).trans (pcode_at (la p' v') (by omega)).symm))), ofNat_succ]
    exact ih
theorem st_at {NF NP : Nat} {s : S} {a : Abs} (h : R NF NP s a) {f : Nat} (hf : f < NF) : k_frameState (Int32.ofNat f) s = some (Int32.ofNat (a.1 f)) := by
  have hN := h.dims
  rw [frameState_ok h]; unfold aState; rw [aFrame_nat hf (by omega)]
theorem va_at {NF NP : Nat} {s : S} {a : Abs} (h : R NF NP s a) {f : Nat} (hf : f < NF) : k_frameValue (Int32.ofNat f) s = some (a.2.1 f) := by
  have hN := h.dims
  rw [frameValue_ok h]; unfold aValue; rw [aFrame_nat hf (by omega)]
theorem mc_at {NF NP : Nat} {s : S} {a : Abs} (h : R NF NP s a) {f : Nat} (hf : f < NF) : k_mapCount (Int32.ofNat f) s = some (Int32.ofNat (aCnt a f)) := by
  have hN := h.dims
  rw [mapCount_ok h]; unfold aCount; rw [aFrame_nat hf (by omega)]
theorem loop_322 {NF NP : Nat} {s t : S} {a b : Abs} (h : R NF NP s b) (k : R NF NP t a) {m lo hi : Nat} (w : Kp NF NP a b m lo hi) (q : List Int32) : ∀ d j N, j + d = NF → d < N → law_322 N (Int32.ofNat NF) (Int32.ofNat NP) (Int32.ofNat m) (Int32.ofNat (4 * NP)) (Int32.ofNat ((List.range j).countP (fun x => decide (a.1 x = 1) && decide (b.1 x = 0)))) (Int32.ofNat j) q s t = some (1, s, t)
  | _, _, 0, _, h => by omega
  | 0, j, N + 1, hj, _ => by
    have hN := h.dims
    have hj' : j = NF := by omega
    subst hj'
    rw [law_322, if_neg (fun z => by have := (ofNat_lt (by omega) (by omega)).mp z; omega), law_497, if_pos (by rw [w.2.2.2.2.2.1])]
    exact loop_509 h k w q (4 * NP) 0 BIG (by omega) (by unfold BIG; omega)
  | d + 1, j, N + 1, hj, hd => by
    have hN := h.dims
    have ih := loop_322 h k w q d (j + 1) N (by omega) (by omega)
    have hjn : j < NF := by omega
    have a3 := k.le3 hjn
    have b3 := h.le3 hjn
    have cn : (List.range (j + 1)).countP (fun x => decide (a.1 x = 1) && decide (b.1 x = 0)) = (List.range j).countP (fun x => decide (a.1 x = 1) && decide (b.1 x = 0)) + (if a.1 j = 1 ∧ b.1 j = 0 then 1 else 0) := by
      rw [List.range_succ, List.countP_append, List.countP_cons, List.countP_nil]
      by_cases c1 : a.1 j = 1 <;> by_cases c2 : b.1 j = 0 <;> simp [c1, c2]
    rw [cn] at ih
    rw [law_322, if_pos ((ofNat_lt (by omega) (by omega)).mpr (by omega)), st_at k hjn, Option.bind_some]
    by_cases c1 : a.1 j = 1
    · rw [c1, if_pos (show Int32.ofNat 1 = 1 from rfl), st_at h hjn, Option.bind_some, law_356, if_neg (by decide), if_neg (by decide), ofNat_succ j]
      by_cases c2 : b.1 j = 0
      · rw [if_pos ⟨c1, c2⟩] at ih
        rw [c2, if_pos (show Int32.ofNat 0 = 0 from rfl), ofNat_succ]
        exact ih
      · rw [if_neg (fun z => c2 z.2)] at ih
        rw [if_neg (show ¬ Int32.ofNat (b.1 j) = 0 from fun z => c2 ((enc_inj (x := b.1 j) (y := 0) (by omega) (by omega)).mp z))]
        exact ih
    · rw [if_neg (fun z => c1 z.1)] at ih
      rw [if_neg (show ¬ Int32.ofNat (a.1 j) = 1 from fun z => c1 ((enc_inj (x := a.1 j) (y := 1) (by omega) (by omega)).mp z)), law_356]
      have go : (a.1 j = 2 ∨ a.1 j = 3) → law_368 (fun v1 v2 v6 v8 v9 v10 q t0 t1 => law_322 N v1 v2 v6 v8 v9 v10 q t0 t1) (Int32.ofNat NF) (Int32.ofNat NP) (Int32.ofNat m) (Int32.ofNat (4 * NP)) (Int32.ofNat ((List.range j).countP (fun x => decide (a.1 x = 1) && decide (b.1 x = 0)))) (Int32.ofNat j) (Int32.ofNat (a.1 j)) q s t = some (1, s, t) := fun sx => by
        obtain ⟨j1, j2, j3⟩ := w.2.1 j sx
        have ec : aCnt b j = aCnt a j := by
          unfold aCnt
          apply List.countP_congr
          intro z _
          rw [decide_eq_true_eq, decide_eq_true_eq]
          exact j3 z
        rw [law_368, st_at h hjn, Option.bind_some, j1, if_pos rfl, va_at h hjn, Option.bind_some, va_at k hjn, Option.bind_some, if_pos j2, mc_at h hjn, Option.bind_some, mc_at k hjn, Option.bind_some, if_pos (by rw [ec]), show (0 : Int32) = Int32.ofNat 0 from rfl, loop_423 h k w q _ _ _ _ hjn sx (4 * NP) 0 BIG (by omega) (by unfold BIG; omega), ofNat_succ]
        exact ih
      by_cases c2 : a.1 j = 2
      · rw [if_pos (by rw [c2]; rfl)]; exact go (Or.inl c2)
      rw [if_neg (show ¬ Int32.ofNat (a.1 j) = 2 from fun z => c2 ((enc_inj (x := a.1 j) (y := 2) (by omega) (by omega)).mp z))]
      by_cases c3 : a.1 j = 3
      · rw [if_pos (by rw [c3]; rfl)]; exact go (Or.inr c3)
      rw [if_neg (show ¬ Int32.ofNat (a.1 j) = 3 from fun z => c3 ((enc_inj (x := a.1 j) (y := 3) (by omega) (by omega)).mp z)), ofNat_succ]
      exact ih
theorem loop_219 {NF NP : Nat} {s t : S} {a b : Abs} (h : R NF NP s b) (k : R NF NP t a) {m lo hi : Nat} (w : Kp NF NP a b m lo hi) (q : List Int32) : ∀ d j N, j + d = 4 * NP → d < N → law_219 N (Int32.ofNat NF) (Int32.ofNat NP) (Int32.ofNat m) (Int32.ofNat (4 * NP)) (Int32.ofNat j) q s t = some (1, s, t)
  | _, _, 0, _, h => by omega
  | 0, j, N + 1, hj, _ => by
    have hN := h.dims
    rw [law_219, if_neg (fun z => by have := (ofNat_lt (by omega) (by omega)).mp z; omega), law_316]
    exact loop_322 h k w q NF 0 BIG (by omega) (by unfold BIG; omega)
  | d + 1, j, N + 1, hj, hd => by
    have hN := h.dims
    have lb : ∀ p v f, aFr NF NP b p v = some f → f < 64 := fun p v f e => by have := aFr_lt h e; omega
    have la : ∀ p v f, aFr NF NP a p v = some f → f < 64 := fun p v f e => by have := aFr_lt k e; omega
    have ih := loop_219 h k w q d (j + 1) N (by omega) (by omega)
    have nz := p_nz (NP := NP) (by omega) (by omega)
    rw [law_219, if_pos ((ofNat_lt (by omega) (by omega)).mpr (by omega)), if_neg nz, if_neg nz]
    generalize Int32.ofNat j / Int32.ofNat NP = p'
    generalize Int32.ofNat j % Int32.ofNat NP = v'
    obtain ⟨r1, r2, r3, r4⟩ := aFr_kp w p' v' p' v'
    rw [read_ok h, Option.bind_some, read_ok k, Option.bind_some, if_pos r3, frameOf_ok h, Option.bind_some]
    unfold law_279 law_299
    have e : (if pcode (aFr NF NP b p' v') = (-1 : Int32) then (0 : Int32) else 1) = (if pcode (aFr NF NP a p' v') = (-1 : Int32) then (0 : Int32) else 1) := by
      by_cases c : aFr NF NP b p' v' = none
      · rw [if_pos ((pcode_m1 (lb p' v')).mpr c), if_pos ((pcode_m1 (la p' v')).mpr (r2.mp c))]
      · rw [if_neg (fun z => c ((pcode_m1 (lb p' v')).mp z)), if_neg (fun z => c (r2.mpr ((pcode_m1 (la p' v')).mp z)))]
    rw [frameOf_ok k, Option.bind_some, if_pos e, ofNat_succ]
    exact ih
theorem fin2 {NF NP : Nat} {s : S} {a : Abs} (h : R NF NP s a) (v3 : Int32) (q : List Int32) : ∃ u, law_152 (Int32.ofNat NF) (Int32.ofNat NP) v3 q s s = some (1, u) := by
  have hN := h.dims
  obtain ⟨u, w, r⟩ := compact_ok h v3
  unfold aCompact at w r
  obtain ⟨⟨lo, hi, kp⟩, le⟩ := go_kp (NF := NF) (NP := NP) (a := a) (lim64 v3) (NF + 1) a 0 (NF - 1) 0 (by omega) (by omega) (Kp.refl h.used 0 (NF - 1))
  obtain ⟨l1, l2⟩ := lim64_ok v3
  have l1' : (if v3 < 0 then (0 : Int32) else if (64 : Int32) < v3 then (64 : Int32) else v3) = Int32.ofNat (lim64 v3) := l1
  refine ⟨(u, s), ?_⟩
  unfold law_152
  rw [w, Option.bind_some, l1']
  dsimp only at r kp le ⊢
  unfold law_180
  rw [if_neg (ofNat_nonneg (by omega)), if_neg (fun z => by have := (ofNat_lt (by omega) (by omega)).mp z; omega), freeCount_ok r, freeCount_ok h, if_pos (by unfold aFree; rw [kp.2.2.2.2.2.2.1]), show (4 : Int32) * Int32.ofNat NP = Int32.ofNat (4 * NP) from (Int32.ofNat_mul 4 NP).symm]
  exact loop_219 r h kp q (4 * NP) 0 BIG (by omega) (by unfold BIG; omega)
theorem mod_ok (v : Int32) {m : Nat} (h0 : 0 < m) (hm : m < 1000) : ∃ k, k < m ∧ h_mod v (Int32.ofNat m) = some (Int32.ofNat k) := by
  unfold h_mod
  have e : (v % Int32.ofNat m).toInt = v.toInt.tmod m := by rw [Int32.toInt_mod, ofNat_toInt (by omega)]
  have b1 : v.toInt.tmod m < m := Int.tmod_lt_of_pos _ (by omega)
  have b2 : -(m : Int) < v.toInt.tmod m := by
    have := Int.tmod_lt_of_pos (-v.toInt) (b := m) (by omega)
    rw [Int.neg_tmod] at this
    omega
  rw [if_neg (p_nz h0 hm)]
  by_cases c : v % Int32.ofNat m < 0
  · rw [if_pos c]
    rw [Int32.lt_iff_toInt_lt, e] at c
    have c' : v.toInt.tmod m < 0 := c
    refine ⟨(v.toInt.tmod m + m).toNat, by omega, ?_⟩
    congr 1
    apply Int32.toInt_inj.mp
    rw [Int32.toInt_add, e, ofNat_toInt (by omega), ofNat_toInt (by omega), Int.bmod_eq_of_le] <;> omega
  · rw [if_neg c]
    rw [Int32.lt_iff_toInt_lt, e] at c
    have c' : ¬ v.toInt.tmod m < 0 := c
    refine ⟨(v.toInt.tmod m).toNat, by omega, ?_⟩
    congr 1
    apply Int32.toInt_inj.mp
    rw [e, ofNat_toInt (by omega)]; omega
theorem cell_ok (q : List Int32) (hq : q.length ≤ 260) {k : Nat} (hk : k ≤ 300) : ∃ x, h_cell (Int32.ofNat k) q = some x := by
  unfold h_cell
  by_cases c : k < q.length
  · obtain ⟨x, e⟩ := ix_some q (k := k) (by omega) c
    rw [if_pos ((ofNat_lt (m := q.length) (by omega) (by omega)).mpr c), e]
    exact ⟨x, rfl⟩
  · rw [if_neg (fun z => c ((ofNat_lt (m := q.length) (by omega) (by omega)).mp z))]
    exact ⟨0, rfl⟩
theorem apply_ok {NF NP : Nat} {s : S} {a : Abs} (h : R NF NP s a) (v1 v2 v3 v4 : Int32) : ∃ s' a', h_apply v1 v2 v3 v4 (Int32.ofNat NP) (Int32.ofNat NF) s = some s' ∧ R NF NP s' a' := by
  have hN := h.dims
  obtain ⟨k, hk, e⟩ := mod_ok v3 (m := NP) (by omega) (by omega)
  unfold h_apply h_apply_22
  rw [e, Option.bind_some]
  obtain ⟨s0, f0, r0⟩ := mapNew_ok h (v2 &&& (3 : Int32)) (Int32.ofNat k) v4
  by_cases c0 : v1 = 0
  · rw [if_pos c0, f0, Option.bind_some]; exact ⟨_, _, rfl, r0⟩
  rw [if_neg c0]
  by_cases c1 : v1 = (1 : Int32)
  · rw [if_pos c1, f0, Option.bind_some]; exact ⟨_, _, rfl, r0⟩
  rw [if_neg c1]
  by_cases c2 : v1 = (2 : Int32)
  · obtain ⟨k', hk', e'⟩ := mod_ok (XT.ushr v4 (2 : Int32)) (m := NP) (by omega) (by omega)
    obtain ⟨s1, f1, r1⟩ := share_ok h (v2 &&& (3 : Int32)) (Int32.ofNat k) (v4 &&& (3 : Int32)) (Int32.ofNat k')
    rw [if_pos c2, e', Option.bind_some, f1, Option.bind_some]; exact ⟨_, _, rfl, r1⟩
  rw [if_neg c2]
  by_cases c3 : v1 = (3 : Int32)
  · obtain ⟨s1, f1, r1⟩ := unmap_ok h (v2 &&& (3 : Int32)) (Int32.ofNat k)
    rw [if_pos c3, f1, Option.bind_some]; exact ⟨_, _, rfl, r1⟩
  rw [if_neg c3]
  by_cases c4 : v1 = (4 : Int32)
  · obtain ⟨s1, f1, r1⟩ := write_ok h (v2 &&& (3 : Int32)) (Int32.ofNat k) v4
    rw [if_pos c4, f1, Option.bind_some]; exact ⟨_, _, rfl, r1⟩
  rw [if_neg c4]
  by_cases c5 : v1 = (5 : Int32)
  · obtain ⟨s1, f1, r1⟩ := pin_ok h (pcode (aFr NF NP a (v2 &&& (3 : Int32)) (Int32.ofNat k)))
    rw [if_pos c5, frameOf_ok h, Option.bind_some, f1, Option.bind_some]; exact ⟨_, _, rfl, r1⟩
  rw [if_neg c5]
  obtain ⟨k6, hk6, e6⟩ := mod_ok v3 (m := NF) (by omega) (by omega)
  obtain ⟨s6, f6, r6⟩ := release_ok h (Int32.ofNat k6)
  by_cases c6 : v1 = (6 : Int32)
  · rw [if_pos c6]
    by_cases c7 : (v2 &&& (4 : Int32)) = 0
    · obtain ⟨s1, f1, r1⟩ := unpin_ok h (pcode (aFr NF NP a (v2 &&& (3 : Int32)) (Int32.ofNat k)))
      rw [if_pos c7, frameOf_ok h, Option.bind_some, f1, Option.bind_some]; exact ⟨_, _, rfl, r1⟩
    · rw [if_neg c7, e6, Option.bind_some, f6, Option.bind_some]; exact ⟨_, _, rfl, r6⟩
  rw [if_neg c6]
  obtain ⟨k7, hk7, e7⟩ := mod_ok (v2 >>> ((2 : Int32) &&& 31)) (m := 3) (by omega) (by omega)
  rw [show (3 : Int32) = Int32.ofNat 3 from rfl, e7, Option.bind_some]
  by_cases c7 : Int32.ofNat k7 = 0
  · obtain ⟨k8, hk8, e8⟩ := mod_ok v3 (m := 4) (by omega) (by omega)
    obtain ⟨s1, f1, r1⟩ := alloc_ok h (Int32.ofNat k8)
    rw [if_pos c7, show (4 : Int32) = Int32.ofNat 4 from rfl, e8, Option.bind_some, f1, Option.bind_some]; exact ⟨_, _, rfl, r1⟩
  rw [if_neg c7]
  by_cases c8 : Int32.ofNat k7 = (1 : Int32)
  · obtain ⟨k8, hk8, e8⟩ := mod_ok v4 (m := 8) (by omega) (by omega)
    obtain ⟨s1, f1, r1⟩ := compact_ok h (Int32.ofNat k8)
    rw [if_pos c8, show (8 : Int32) = Int32.ofNat 8 from rfl, e8, Option.bind_some, f1, Option.bind_some]; exact ⟨_, _, rfl, r1⟩
  · rw [if_neg c8, e6, Option.bind_some, f6, Option.bind_some]; exact ⟨_, _, rfl, r6⟩
theorem clamp8 : ∀ k : Fin 57, k_clampInt (Int32.ofNat (8 + k.val)) 8 64 = Int32.ofNat (8 + k.val) := by decide +kernel
theorem clamp4 : ∀ k : Fin 13, k_clampInt (Int32.ofNat (4 + k.val)) 4 16 = Int32.ofNat (4 + k.val) := by decide +kernel
theorem law_true (q : List Int32) (hq : q.length ≤ 260) : ∃ t, law q = some (1, t) := by
  obtain ⟨x0, e0⟩ := cell_ok q hq (k := 0) (by omega)
  obtain ⟨x1, e1⟩ := cell_ok q hq (k := 1) (by omega)
  obtain ⟨x2, e2⟩ := cell_ok q hq (k := 2) (by omega)
  obtain ⟨y0, h0, f0⟩ := mod_ok x0 (m := 57) (by omega) (by omega)
  obtain ⟨y1, h1, f1⟩ := mod_ok x1 (m := 13) (by omega) (by omega)
  obtain ⟨y2, h2, f2⟩ := mod_ok x2 (m := 80) (by omega) (by omega)
  obtain ⟨s, es, Rs⟩ := init_R (NF := 8 + y0) (NP := 4 + y1) (by omega) (by omega) (by omega) (by omega) (clamp8 ⟨y0, h0⟩) (clamp4 ⟨y1, h1⟩)
  unfold law
  rw [show (0 : Int32) = Int32.ofNat 0 from rfl, e0, Option.bind_some, show (57 : Int32) = Int32.ofNat 57 from rfl, f0, Option.bind_some, show (1 : Int32) = Int32.ofNat 1 from rfl, e1, Option.bind_some, show (13 : Int32) = Int32.ofNat 13 from rfl, f1, Option.bind_some, show (2 : Int32) = Int32.ofNat 2 from rfl, e2, Option.bind_some, show (80 : Int32) = Int32.ofNat 80 from rfl, f2, Option.bind_some, show (8 : Int32) + Int32.ofNat y0 = Int32.ofNat (8 + y0) from ofNat_add' 8 y0, show (4 : Int32) + Int32.ofNat y1 = Int32.ofNat (4 + y1) from ofNat_add' 4 y1, es, Option.bind_some, Option.bind_some]
  generalize Int32.ofNat y2 - (8 : Int32) = v3
  have ltq : ∀ k, k ≤ 300 → (Int32.ofNat k < q.length.toInt32 ↔ k < q.length) := fun k hk => ofNat_lt (by omega) (by omega)
  refine run_script (fun n v (a : S × S) => law_66 n (Int32.ofNat (8 + y0)) (Int32.ofNat (4 + y1)) v3 v q a.1 a.2) 4 (q.length + 3) (by omega) (fun o => ∃ t, o = some ((Int32.ofNat 1), t)) (fun _ u => u.1 = u.2 ∧ ∃ a, R (8 + y0) (4 + y1) u.1 a) ?_ ?_ BIG 3 (s, s) (by unfold BIG; omega) (by omega) ⟨rfl, _, Rs⟩
  · rintro n k ⟨u, w⟩ hk ⟨e, a, h⟩
    dsimp only at e h
    subst e
    right
    obtain ⟨x0, e0⟩ := cell_ok q hq (k := k) (by omega)
    obtain ⟨x1, e1⟩ := cell_ok q hq (k := k + 1) (by omega)
    obtain ⟨x2, e2⟩ := cell_ok q hq (k := k + 2) (by omega)
    obtain ⟨x3, e3⟩ := cell_ok q hq (k := k + 3) (by omega)
    obtain ⟨z, hz, ez⟩ := mod_ok x0 (m := 8) (by omega) (by omega)
    obtain ⟨s', a', d1, d2⟩ := apply_ok h (Int32.ofNat z) x1 x2 x3
    refine ⟨(s', s'), ?_, rfl, a', d2⟩
    show law_66 (n + 1) _ _ _ _ _ _ _ = law_66 n _ _ _ _ _ _ _
    rw [law_66, if_pos ((ltq k (by omega)).mpr (by omega)), e0, Option.bind_some, show (8 : Int32) = Int32.ofNat 8 from rfl, ez, Option.bind_some]
    rw [show Int32.ofNat k + 1 = Int32.ofNat (k + 1) from ofNat_lit k 1, show Int32.ofNat k + 2 = Int32.ofNat (k + 2) from ofNat_lit k 2, show Int32.ofNat k + 3 = Int32.ofNat (k + 3) from ofNat_lit k 3, show Int32.ofNat k + 4 = Int32.ofNat (k + 4) from ofNat_lit k 4, e1, Option.bind_some, e2, Option.bind_some, e3, Option.bind_some, d1, Option.bind_some, Option.bind_some]
  · rintro n k ⟨u, w⟩ hk hk' ⟨e, a, h⟩
    dsimp only at e h
    subst e
    show ∃ t, law_66 (n + 1) _ _ _ _ _ _ _ = _
    rw [law_66, if_neg (fun z => by have := (ltq k (by omega)).mp z; omega)]
    exact fin2 h v3 q
set_option maxRecDepth 65536 in
set_option maxHeartbeats 40000000 in
theorem comes_1 {Post : Tables → Env → Array Value → State → Outcome → State → Prop} (hpost : ∀ tb e args s v u, (limb_1_1.after args s (.returned v) u = true ∧ limb_1_2.after args s (.returned v) u = true ∧ True) → FrameEnd s (.returned v) u (Jvm.fieldLocs frame_1_writes args s ++ Jvm.arrayLocs frame_1_arrays args s ++ Jvm.staticLocs frame_1_statics s) 48 1984 → Post tb e args s (.returned v) u) :
    ArmFor flags0 classFile x code maxLocals ret World_1 tables_1 room_1 Calls_1 rest_1 Pre_1 Post := by
  intro l hfl _ _ p e ha hc hk s m args below hf hA hF happ hP
  obtain ⟨hcalls, hrest, hpre⟩ := hP
  obtain ⟨-, -, -, hnamed, -, -, -, hat⟩ := (Spec.applies_iff hf).mp happ
  obtain ⟨hg, hn⟩ := and_e (Cond.before_iff.mp (show (Jvm.Cond.and given_1 narrow_1).before args s = true from hpre))
  obtain ⟨g0, b0⟩ := and_e hg
  have a0 := b0
  obtain ⟨w0, rfl⟩ : ∃ w0 : Value, args = #[w0] := by
    have hs : args.size = 1 := by simpa [Cond.value, given_1] using g0
    obtain ⟨L⟩ := args
    match L, hs with
    | [w0], _ => exact ⟨w0, rfl⟩
  have hw := fun d (hd : d ∈ tables_1) => atoms_spec (ws := Jvm.Cond.code x code maxLocals ret :: tables_1) hat d (List.mem_cons_of_mem _ hd)
  have hfit : Fit s := fun {y c} hc i hi => by
    obtain ⟨ha, rfl⟩ := Array.getElem?_eq_some_iff.mp hc
    have q := List.all_eq_true.mp ((Array.all_eq_true_iff_forall_mem.mp hF) _ (Array.getElem_mem ha)) i (List.mem_range.mpr hi)
    simpa [Array.getElem?_eq_getElem hi] using q
  obtain ⟨q1, q2⟩ := and_e hn
  obtain ⟨al, q, ei, A, hal, hlen⟩ := script_of hfit q1 q2
  obtain rfl : w0 = (.ref al) := Option.some.inj ei
  have hlen' : q.length ≤ 260 := by
    have e260 : (260 : Int32).toInt = 260 := rfl
    omega
  obtain ⟨t, ht⟩ := law_true q hlen'
  have C : Call PP m48 [.ref 0] (some q, []) (some (.int ((1 : Int32), t).1), (some q, [(8, ((1 : Int32), t).2.1), (8, ((1 : Int32), t).2.2)])) := call_of_go pl_1 rfl (fun h => by cases h) (law_ok q _ ht)
  obtain ⟨n, o, h1, h2, h3, _, L, rfl, ⟨rfl, N, _⟩, hq⟩ := C l s _ tables_1 al s.heap.size s.heap.size s.heap hw (facts1 hw) (Nat.le_refl _) (repW_some A hal) (Nat.zero_le _) (fun _ => ⟨rfl, rfl, rfl⟩) p e ha hc hk s m _ below hf ((Spec.applies_iff_loose hf).mp happ).1 ⟨rfl, State.Warmed39.refl s, rfl⟩ trivial
  refine ⟨n, _, h1, h2, h3, hpost _ _ _ _ _ _ ⟨Cond.after_iff.mpr rfl, Cond.after_iff.mpr (eq_i res_at (Term.int_eval (1)) rfl), trivial⟩ ⟨hq.1, hq.2.1, (hq.2.2.sift fun y hy => Or.inr (N y hy)).mono (by decide) (by decide)⟩⟩
theorem main_1_1 : Claimed_1_1 := comes_1 fun _ _ _ _ _ _ h hF => ⟨h.1, hF⟩
theorem main_1_2 : Claimed_1_2 := comes_1 fun _ _ _ _ _ _ h hF => ⟨h.2.1, hF⟩
end Jvm.Pilot.@@N@@
namespace Jvm.Pilot.@@N@@
open Jvm Jvm.ClassFile Sem Op Lib Jvm.Free Jvm.Stand Jvm.Pilot.@@N@@.Jvm.D
/-! MADE BY PROGRAM (witnessworld.py) out of the Statement's table words and the real class files: 11 classes; the members and pool entries that the words name. The judged class is class 1, her method 4. -/
namespace start1
open Jvm.ClassFile
def u (s : String) : CpInfo := .utf8 (stringToUtf16 s)
/-- a pool by its gaps: so many unusable entries, then the entry; so many at the end -/
def gap : Nat → List CpInfo → List CpInfo
  | 0, r => r
  | n + 1, r => .unusable :: gap n r
def poolList (es : List (Nat × CpInfo)) (last : Nat) : List CpInfo := es.foldr (fun e r => gap e.1 (e.2 :: r)) (gap last [])
def pool (es : List (Nat × CpInfo)) (last : Nat) : Array CpInfo := ⟨poolList es last⟩
def fileOf (pool : Array CpInfo) (this : Nat) (attrs : Array Attribute := #[]) (ms : Array MethodInfo := #[]) (fl : Nat := 33) (sup : Nat := 0) (ifs : Array Nat := #[]) (fds : Array FieldInfo := #[]) : ClassFile where
  minorVersion := 0
  majorVersion := 65
  constantPool := pool
  accessFlags := fl
  thisClass := this
  superClass := sup
  interfaces := ifs
  fields := fds
  methods := ms
  attributes := attrs
def plain (name : String) (sup : Option ClassId) : Class where
  name := name
  kind := .ordinary
  loader := none
  accessFlags := 33
  super := sup
  interfaces := #[]
  cf := none
  fields := #[]
  methods := #[]
  instanceTypes := #[]
  staticTypes := #[]
  resolved := #[]
  callSites := []
  init := .initialized
  statics := none
  mirror := none

def pool0 : Array CpInfo := pool [(5, u "<init>"), (0, u "()V"), (1, .class_ 10), (1, u "java/lang/Object")] 113

def k0c0 : Code := { maxStack := 0, maxLocals := 1, code := object_method_1_code, exceptionTable := #[], attributes := #[] }
def k0m0 : Method := { name := "<init>", desc := "()V", sig := { parameters := [], returnType := none }, accessFlags := 1, code := some k0c0 }
/-- java/lang/Object -/
def k0 : Class := { plain "java/lang/Object" none with
  accessFlags := 33
  interfaces := #[]
  cf := some (fileOf pool0 8 #[] #[{ accessFlags := 1, nameIndex := 5, descriptorIndex := 6, attributes := #[] }] 33 0 #[] #[])
  fields := #[]
  methods := #[k0m0]
  instanceTypes := #[]
  staticTypes := #[]
  resolved := Array.replicate 124 none
  statics := none }

def pool1 : Array CpInfo := pool [(2, .class_ 4), (1, u "java/lang/Object"), (0, u "<init>"), (0, u "()V"), (0, .methodref 8 9), (0, .class_ 10), (0, .nameAndType 11 12), (0, u "PageCompactorYOwnLaw"), (0, u "mod"), (0, u "(II)I"), (0, .methodref 14 15), (0, .class_ 16), (0, .nameAndType 17 18), (0, u "PageCompactorY"), (0, u "mapNew"), (0, u "(III)I"), (0, .methodref 14 20), (0, .nameAndType 21 22), (0, u "share"), (0, u "(IIII)I"), (0, .methodref 14 24), (0, .nameAndType 25 12), (0, u "unmap"), (0, .methodref 14 27), (0, .nameAndType 28 29), (0, u "write"), (0, u "(III)Z"), (0, .methodref 14 31), (0, .nameAndType 32 12), (0, u "frameOf"), (0, .methodref 14 34), (0, .nameAndType 35 36), (0, u "pin"), (0, u "(I)Z"), (0, .methodref 14 38), (0, .nameAndType 39 36), (0, u "unpin"), (0, .methodref 14 41), (0, .nameAndType 42 36), (0, u "release"), (0, .methodref 14 44), (0, .nameAndType 45 46), (0, u "allocBlock"), (0, u "(I)I"), (0, .methodref 14 48), (0, .nameAndType 49 46), (0, u "compact"), (0, .methodref 8 51), (0, .nameAndType 52 53), (0, u "cell"), (0, u "([II)I"), (0, .methodref 14 55), (0, .nameAndType 5 56), (0, u "(II)V"), (0, .methodref 8 58), (0, .nameAndType 59 60), (0, u "apply"), (0, u "(LPageCompactorY;IIIIII)V"), (0, .methodref 14 62), (0, .nameAndType 63 64), (0, u "freeCount"), (0, u "()I"), (0, .methodref 14 66), (0, .nameAndType 67 12), (0, u "read"), (0, .methodref 14 69), (0, .nameAndType 70 46), (0, u "frameState"), (0, .methodref 14 72), (0, .nameAndType 73 46), (0, u "frameValue"), (0, .methodref 14 75), (0, .nameAndType 76 46), (0, u "mapCount"), (3, u "law"), (0, u "([I)Z")] 4

def k1m0 : Method := { name := "<init>", desc := "()V", sig := { parameters := [], returnType := none }, accessFlags := 1, code := none }
def k1c1 : Code := { maxStack := 2, maxLocals := 2, code := method_2_code, exceptionTable := #[], attributes := #[] }
def k1m1 : Method := { name := "cell", desc := "([II)I", sig := { parameters := [(.array .int), .int], returnType := some .int }, accessFlags := 10, code := some k1c1 }
def k1c2 : Code := { maxStack := 2, maxLocals := 3, code := method_3_code, exceptionTable := #[], attributes := #[] }
def k1m2 : Method := { name := "mod", desc := "(II)I", sig := { parameters := [.int, .int], returnType := some .int }, accessFlags := 10, code := some k1c2 }
def k1c3 : Code := { maxStack := 6, maxLocals := 10, code := method_4_code, exceptionTable := #[], attributes := #[] }
def k1m3 : Method := { name := "apply", desc := "(LPageCompactorY;IIIIII)V", sig := { parameters := [(.object "PageCompactorY"), .int, .int, .int, .int, .int, .int], returnType := none }, accessFlags := 10, code := some k1c3 }
def k1c4 : Code := { maxStack := 7, maxLocals := 18, code := code, exceptionTable := #[], attributes := #[] }
def k1m4 : Method := { name := "law", desc := "([I)Z", sig := { parameters := [(.array .int)], returnType := some .boolean }, accessFlags := 9, code := some k1c4 }
/-- PageCompactorYOwnLaw -/
def k1 : Class := { plain "PageCompactorYOwnLaw" (some 0) with
  accessFlags := 49
  interfaces := #[]
  cf := some (fileOf pool1 8 #[] #[{ accessFlags := 1, nameIndex := 5, descriptorIndex := 6, attributes := #[] }, { accessFlags := 10, nameIndex := 52, descriptorIndex := 53, attributes := #[] }, { accessFlags := 10, nameIndex := 11, descriptorIndex := 12, attributes := #[] }, { accessFlags := 10, nameIndex := 59, descriptorIndex := 60, attributes := #[] }, { accessFlags := 9, nameIndex := 80, descriptorIndex := 81, attributes := #[] }] 49 2 #[] #[])
  fields := #[]
  methods := #[k1m0, k1m1, k1m2, k1m3, k1m4]
  instanceTypes := #[]
  staticTypes := #[]
  resolved := Array.replicate 86 none
  statics := none }

def pool2 : Array CpInfo := pool [(1, .methodref 2 3), (0, .class_ 4), (0, .nameAndType 5 6), (0, u "java/lang/Object"), (0, u "<init>"), (0, u "()V"), (0, .fieldref 8 9), (0, .class_ 10), (0, .nameAndType 11 12), (0, u "PageCompactorY"), (0, u "frameStates"), (0, u "[B"), (0, .fieldref 8 14), (0, .nameAndType 15 16), (0, u "frameValues"), (0, u "[I"), (0, .fieldref 8 18), (0, .nameAndType 19 16), (0, u "frameCounts"), (0, .fieldref 8 21), (0, .nameAndType 22 16), (0, u "pageFrame"), (0, .fieldref 8 24), (0, .nameAndType 25 16), (0, u "rmapHead"), (0, .fieldref 8 27), (0, .nameAndType 28 16), (0, u "rmapNext"), (0, .fieldref 8 30), (0, .nameAndType 31 16), (0, u "rmapPrev"), (0, .fieldref 8 33), (0, .nameAndType 34 35), (0, u "runSet"), (0, u "[J"), (0, .methodref 8 37), (0, .nameAndType 38 39), (0, u "clampInt"), (0, u "(III)I"), (0, .fieldref 8 41), (0, .nameAndType 42 43), (0, u "frameTotal"), (0, u "I"), (0, .fieldref 8 45), (0, .nameAndType 46 43), (0, u "pageTotal"), (0, .methodref 8 48), (0, .nameAndType 49 6), (0, u "resetAll"), (0, .methodref 8 51), (0, .nameAndType 52 53), (0, u "checkTarget"), (0, u "(II)I"), (0, .fieldref 8 55), (0, .nameAndType 56 57), (0, u "freeSet"), (0, u "J"), (0, .methodref 8 59), (0, .nameAndType 60 61), (0, u "lowestBit"), (0, u "(J)I"), (0, .methodref 8 63), (0, .nameAndType 64 65), (0, u "frameInRange"), (0, u "(I)Z"), (0, .methodref 8 67), (0, .nameAndType 68 53), (0, u "slotOf"), (0, .methodref 8 70), (0, .nameAndType 71 72), (0, u "enterState"), (0, u "(II)V"), (0, .methodref 8 74), (0, .nameAndType 75 72), (0, u "attachPage"), (0, .methodref 8 77), (0, .nameAndType 78 79), (0, u "pageInRange"), (0, u "(II)Z"), (0, .methodref 8 81), (0, .nameAndType 82 83), (0, u "detachPage"), (0, u "(I)I"), (0, .methodref 8 85), (0, .nameAndType 86 87), (0, u "freeFrame"), (0, u "(I)V"), (0, .methodref 8 89), (0, .nameAndType 90 53), (0, u "mappedFrame"), (0, .methodref 8 92), (0, .nameAndType 93 94), (0, u "freeRunsOfOrder"), (0, u "(I)J"), (0, .methodref 8 96), (0, .nameAndType 97 72), (0, u "reserveRun"), (0, .fieldref 8 99), (0, .nameAndType 100 43), (0, u "scanLimit"), (0, .fieldref 8 102), (0, .nameAndType 103 43), (0, u "scanMoved"), (0, .fieldref 8 105), (0, .nameAndType 106 43), (0, u "scanMigrate"), (0, .fieldref 8 108), (0, .nameAndType 109 43), (0, u "scanFree"), (0, .methodref 8 111), (0, .nameAndType 112 6), (0, u "advanceMigrateScanner"), (0, .methodref 8 114), (0, .nameAndType 115 6), (0, u "retreatFreeScanner"), (0, .methodref 8 117), (0, .nameAndType 118 119), (0, u "scannersDone"), (0, u "()Z"), (0, .methodref 8 121), (0, .nameAndType 122 72), (0, u "migrateFrame"), (0, .methodref 8 124), (0, .nameAndType 125 61), (0, u "bitCount"), (0, .methodref 8 127), (0, .nameAndType 128 6), (0, u "refreshRuns"), (0, .methodref 8 130), (0, .nameAndType 131 94), (0, u "lowMask"), (0, .fieldref 8 133), (0, .nameAndType 134 57), (0, u "mappedSet"), (0, .fieldref 8 136), (0, .nameAndType 137 57), (0, u "pinnedSet"), (0, .fieldref 8 139), (0, .nameAndType 140 57), (0, u "reservedSet"), (0, .fieldref 8 142), (0, .nameAndType 143 144), (0, u "runsStale"), (0, u "Z"), (0, .methodref 8 146), (0, .nameAndType 147 94), (0, u "bitOf"), (0, .long 18446744073709551615), (1, .methodref 8 151), (0, .nameAndType 152 87), (0, u "reserveFrame"), (0, .methodref 8 154), (0, .nameAndType 155 72), (0, u "rmapLink"), (0, .methodref 8 157), (0, .nameAndType 158 83), (0, u "rmapUnlink"), (0, .methodref 8 160), (0, .nameAndType 161 94), (0, u "alignMask"), (0, .long 6148914691236517205), (1, .long 1229782938247303441), (1, .long 72340172838076673), (1, .long 281479271743489), (1, .long 4294967297), (1, .methodref 8 173), (0, .nameAndType 174 175), (0, u "rangeMask"), (0, u "(II)J"), (0, .methodref 8 177), (0, .nameAndType 178 61), (0, u "highestBit"), (0, .methodref 8 180), (0, .nameAndType 181 72), (0, u "rmapTransfer"), (0, .long 4294967295), (1, .long 65535), (1, .long 255), (1, .long 15), (1, .long 3), (1, .long 3689348814741910323), (1, .long 1085102592571150095), (1, u "PROCESSES"), (2, u "MAX_ORDER"), (1, u "FREE"), (1, u "MAPPED"), (1, u "PINNED"), (1, u "RESERVED"), (1, u "NONE"), (1, u "ERR_ARG"), (0, u "ERR_MAPPED"), (1, u "ERR_UNMAPPED"), (1, u "ERR_FULL"), (3, u "mapNew"), (1, u "share"), (0, u "(IIII)I"), (0, u "unmap"), (0, u "write"), (0, u "(III)Z"), (0, u "read"), (0, u "frameOf"), (0, u "pin"), (0, u "unpin"), (0, u "allocBlock"), (0, u "release"), (0, u "compact"), (0, u "frameState"), (0, u "frameValue"), (0, u "mapCount"), (0, u "freeCount"), (0, u "()I")] 3

def k2c0 : Code := { maxStack := 5, maxLocals := 3, code := prog_1_method_1_code, exceptionTable := #[], attributes := #[] }
def k2m0 : Method := { name := "<init>", desc := "(II)V", sig := { parameters := [.int, .int], returnType := none }, accessFlags := 1, code := some k2c0 }
def k2c1 : Code := { maxStack := 4, maxLocals := 7, code := prog_1_method_2_code, exceptionTable := #[], attributes := #[] }
def k2m1 : Method := { name := "mapNew", desc := "(III)I", sig := { parameters := [.int, .int, .int], returnType := some .int }, accessFlags := 1, code := some k2c1 }
def k2c2 : Code := { maxStack := 3, maxLocals := 8, code := prog_1_method_3_code, exceptionTable := #[], attributes := #[] }
def k2m2 : Method := { name := "share", desc := "(IIII)I", sig := { parameters := [.int, .int, .int, .int], returnType := some .int }, accessFlags := 1, code := some k2c2 }
def k2c3 : Code := { maxStack := 3, maxLocals := 5, code := prog_1_method_4_code, exceptionTable := #[], attributes := #[] }
def k2m3 : Method := { name := "unmap", desc := "(II)I", sig := { parameters := [.int, .int], returnType := some .int }, accessFlags := 1, code := some k2c3 }
def k2c4 : Code := { maxStack := 3, maxLocals := 5, code := prog_1_method_5_code, exceptionTable := #[], attributes := #[] }
def k2m4 : Method := { name := "write", desc := "(III)Z", sig := { parameters := [.int, .int, .int], returnType := some .boolean }, accessFlags := 1, code := some k2c4 }
def k2c5 : Code := { maxStack := 3, maxLocals := 4, code := prog_1_method_6_code, exceptionTable := #[], attributes := #[] }
def k2m5 : Method := { name := "read", desc := "(II)I", sig := { parameters := [.int, .int], returnType := some .int }, accessFlags := 1, code := some k2c5 }
def k2c6 : Code := { maxStack := 3, maxLocals := 4, code := prog_1_method_7_code, exceptionTable := #[], attributes := #[] }
def k2m6 : Method := { name := "frameOf", desc := "(II)I", sig := { parameters := [.int, .int], returnType := some .int }, accessFlags := 1, code := some k2c6 }
def k2c7 : Code := { maxStack := 3, maxLocals := 2, code := prog_1_method_8_code, exceptionTable := #[], attributes := #[] }
def k2m7 : Method := { name := "pin", desc := "(I)Z", sig := { parameters := [.int], returnType := some .boolean }, accessFlags := 1, code := some k2c7 }
def k2c8 : Code := { maxStack := 3, maxLocals := 2, code := prog_1_method_9_code, exceptionTable := #[], attributes := #[] }
def k2m8 : Method := { name := "unpin", desc := "(I)Z", sig := { parameters := [.int], returnType := some .boolean }, accessFlags := 1, code := some k2c8 }
def k2c9 : Code := { maxStack := 4, maxLocals := 5, code := prog_1_method_10_code, exceptionTable := #[], attributes := #[] }
def k2m9 : Method := { name := "allocBlock", desc := "(I)I", sig := { parameters := [.int], returnType := some .int }, accessFlags := 1, code := some k2c9 }
def k2c10 : Code := { maxStack := 2, maxLocals := 2, code := prog_1_method_11_code, exceptionTable := #[], attributes := #[] }
def k2m10 : Method := { name := "release", desc := "(I)Z", sig := { parameters := [.int], returnType := some .boolean }, accessFlags := 1, code := some k2c10 }
def k2c11 : Code := { maxStack := 5, maxLocals := 3, code := prog_1_method_12_code, exceptionTable := #[], attributes := #[] }
def k2m11 : Method := { name := "compact", desc := "(I)I", sig := { parameters := [.int], returnType := some .int }, accessFlags := 1, code := some k2c11 }
def k2c12 : Code := { maxStack := 2, maxLocals := 2, code := prog_1_method_13_code, exceptionTable := #[], attributes := #[] }
def k2m12 : Method := { name := "frameState", desc := "(I)I", sig := { parameters := [.int], returnType := some .int }, accessFlags := 1, code := some k2c12 }
def k2c13 : Code := { maxStack := 2, maxLocals := 3, code := prog_1_method_14_code, exceptionTable := #[], attributes := #[] }
def k2m13 : Method := { name := "frameValue", desc := "(I)I", sig := { parameters := [.int], returnType := some .int }, accessFlags := 1, code := some k2c13 }
def k2c14 : Code := { maxStack := 2, maxLocals := 2, code := prog_1_method_15_code, exceptionTable := #[], attributes := #[] }
def k2m14 : Method := { name := "mapCount", desc := "(I)I", sig := { parameters := [.int], returnType := some .int }, accessFlags := 1, code := some k2c14 }
def k2c15 : Code := { maxStack := 3, maxLocals := 1, code := prog_1_method_16_code, exceptionTable := #[], attributes := #[] }
def k2m15 : Method := { name := "freeCount", desc := "()I", sig := { parameters := [], returnType := some .int }, accessFlags := 1, code := some k2c15 }
def k2c16 : Code := { maxStack := 2, maxLocals := 4, code := prog_1_method_18_code, exceptionTable := #[], attributes := #[] }
def k2m16 : Method := { name := "clampInt", desc := "(III)I", sig := { parameters := [.int, .int, .int], returnType := some .int }, accessFlags := 2, code := some k2c16 }
def k2c17 : Code := { maxStack := 2, maxLocals := 3, code := prog_1_method_19_code, exceptionTable := #[], attributes := #[] }
def k2m17 : Method := { name := "pageInRange", desc := "(II)Z", sig := { parameters := [.int, .int], returnType := some .boolean }, accessFlags := 2, code := some k2c17 }
def k2c18 : Code := { maxStack := 2, maxLocals := 2, code := prog_1_method_20_code, exceptionTable := #[], attributes := #[] }
def k2m18 : Method := { name := "frameInRange", desc := "(I)Z", sig := { parameters := [.int], returnType := some .boolean }, accessFlags := 2, code := some k2c18 }
def k2c19 : Code := { maxStack := 2, maxLocals := 3, code := prog_1_method_21_code, exceptionTable := #[], attributes := #[] }
def k2m19 : Method := { name := "slotOf", desc := "(II)I", sig := { parameters := [.int, .int], returnType := some .int }, accessFlags := 2, code := some k2c19 }
def k2c20 : Code := { maxStack := 3, maxLocals := 4, code := prog_1_method_22_code, exceptionTable := #[], attributes := #[] }
def k2m20 : Method := { name := "checkTarget", desc := "(II)I", sig := { parameters := [.int, .int], returnType := some .int }, accessFlags := 2, code := some k2c20 }
def k2c21 : Code := { maxStack := 3, maxLocals := 5, code := prog_1_method_23_code, exceptionTable := #[], attributes := #[] }
def k2m21 : Method := { name := "mappedFrame", desc := "(II)I", sig := { parameters := [.int, .int], returnType := some .int }, accessFlags := 2, code := some k2c21 }
def k2c22 : Code := { maxStack := 3, maxLocals := 2, code := prog_1_method_24_code, exceptionTable := #[], attributes := #[] }
def k2m22 : Method := { name := "resetAll", desc := "()V", sig := { parameters := [], returnType := none }, accessFlags := 2, code := some k2c22 }
def k2c23 : Code := { maxStack := 7, maxLocals := 5, code := prog_1_method_25_code, exceptionTable := #[], attributes := #[] }
def k2m23 : Method := { name := "enterState", desc := "(II)V", sig := { parameters := [.int, .int], returnType := none }, accessFlags := 2, code := some k2c23 }
def k2c24 : Code := { maxStack := 3, maxLocals := 2, code := prog_1_method_26_code, exceptionTable := #[], attributes := #[] }
def k2m24 : Method := { name := "freeFrame", desc := "(I)V", sig := { parameters := [.int], returnType := none }, accessFlags := 2, code := some k2c24 }
def k2c25 : Code := { maxStack := 3, maxLocals := 2, code := prog_1_method_27_code, exceptionTable := #[], attributes := #[] }
def k2m25 : Method := { name := "reserveFrame", desc := "(I)V", sig := { parameters := [.int], returnType := none }, accessFlags := 2, code := some k2c25 }
def k2c26 : Code := { maxStack := 3, maxLocals := 5, code := prog_1_method_28_code, exceptionTable := #[], attributes := #[] }
def k2m26 : Method := { name := "reserveRun", desc := "(II)V", sig := { parameters := [.int, .int], returnType := none }, accessFlags := 2, code := some k2c26 }
def k2c27 : Code := { maxStack := 4, maxLocals := 3, code := prog_1_method_29_code, exceptionTable := #[], attributes := #[] }
def k2m27 : Method := { name := "attachPage", desc := "(II)V", sig := { parameters := [.int, .int], returnType := none }, accessFlags := 2, code := some k2c27 }
def k2c28 : Code := { maxStack := 4, maxLocals := 3, code := prog_1_method_30_code, exceptionTable := #[], attributes := #[] }
def k2m28 : Method := { name := "detachPage", desc := "(I)I", sig := { parameters := [.int], returnType := some .int }, accessFlags := 2, code := some k2c28 }
def k2c29 : Code := { maxStack := 3, maxLocals := 4, code := prog_1_method_31_code, exceptionTable := #[], attributes := #[] }
def k2m29 : Method := { name := "rmapLink", desc := "(II)V", sig := { parameters := [.int, .int], returnType := none }, accessFlags := 2, code := some k2c29 }
def k2c30 : Code := { maxStack := 3, maxLocals := 5, code := prog_1_method_32_code, exceptionTable := #[], attributes := #[] }
def k2m30 : Method := { name := "rmapUnlink", desc := "(I)I", sig := { parameters := [.int], returnType := some .int }, accessFlags := 2, code := some k2c30 }
def k2c31 : Code := { maxStack := 4, maxLocals := 5, code := prog_1_method_33_code, exceptionTable := #[], attributes := #[] }
def k2m31 : Method := { name := "rmapTransfer", desc := "(II)V", sig := { parameters := [.int, .int], returnType := none }, accessFlags := 2, code := some k2c31 }
def k2c32 : Code := { maxStack := 2, maxLocals := 2, code := prog_1_method_34_code, exceptionTable := #[], attributes := #[] }
def k2m32 : Method := { name := "freeRunsOfOrder", desc := "(I)J", sig := { parameters := [.int], returnType := some .long }, accessFlags := 2, code := some k2c32 }
def k2c33 : Code := { maxStack := 5, maxLocals := 7, code := prog_1_method_35_code, exceptionTable := #[], attributes := #[] }
def k2m33 : Method := { name := "refreshRuns", desc := "()V", sig := { parameters := [], returnType := none }, accessFlags := 2, code := some k2c33 }
def k2c34 : Code := { maxStack := 2, maxLocals := 2, code := prog_1_method_36_code, exceptionTable := #[], attributes := #[] }
def k2m34 : Method := { name := "alignMask", desc := "(I)J", sig := { parameters := [.int], returnType := some .long }, accessFlags := 2, code := some k2c34 }
def k2c35 : Code := { maxStack := 4, maxLocals := 5, code := prog_1_method_37_code, exceptionTable := #[], attributes := #[] }
def k2m35 : Method := { name := "advanceMigrateScanner", desc := "()V", sig := { parameters := [], returnType := none }, accessFlags := 2, code := some k2c35 }
def k2c36 : Code := { maxStack := 4, maxLocals := 5, code := prog_1_method_38_code, exceptionTable := #[], attributes := #[] }
def k2m36 : Method := { name := "retreatFreeScanner", desc := "()V", sig := { parameters := [], returnType := none }, accessFlags := 2, code := some k2c36 }
def k2c37 : Code := { maxStack := 2, maxLocals := 1, code := prog_1_method_39_code, exceptionTable := #[], attributes := #[] }
def k2m37 : Method := { name := "scannersDone", desc := "()Z", sig := { parameters := [], returnType := some .boolean }, accessFlags := 2, code := some k2c37 }
def k2c38 : Code := { maxStack := 3, maxLocals := 5, code := prog_1_method_40_code, exceptionTable := #[], attributes := #[] }
def k2m38 : Method := { name := "migrateFrame", desc := "(II)V", sig := { parameters := [.int, .int], returnType := none }, accessFlags := 2, code := some k2c38 }
def k2c39 : Code := { maxStack := 3, maxLocals := 2, code := prog_1_method_41_code, exceptionTable := #[], attributes := #[] }
def k2m39 : Method := { name := "bitOf", desc := "(I)J", sig := { parameters := [.int], returnType := some .long }, accessFlags := 2, code := some k2c39 }
def k2c40 : Code := { maxStack := 4, maxLocals := 2, code := prog_1_method_42_code, exceptionTable := #[], attributes := #[] }
def k2m40 : Method := { name := "lowMask", desc := "(I)J", sig := { parameters := [.int], returnType := some .long }, accessFlags := 2, code := some k2c40 }
def k2c41 : Code := { maxStack := 6, maxLocals := 7, code := prog_1_method_43_code, exceptionTable := #[], attributes := #[] }
def k2m41 : Method := { name := "rangeMask", desc := "(II)J", sig := { parameters := [.int, .int], returnType := some .long }, accessFlags := 2, code := some k2c41 }
def k2c42 : Code := { maxStack := 4, maxLocals := 6, code := prog_1_method_44_code, exceptionTable := #[], attributes := #[] }
def k2m42 : Method := { name := "lowestBit", desc := "(J)I", sig := { parameters := [.long], returnType := some .int }, accessFlags := 2, code := some k2c42 }
def k2c43 : Code := { maxStack := 4, maxLocals := 6, code := prog_1_method_45_code, exceptionTable := #[], attributes := #[] }
def k2m43 : Method := { name := "highestBit", desc := "(J)I", sig := { parameters := [.long], returnType := some .int }, accessFlags := 2, code := some k2c43 }
def k2c44 : Code := { maxStack := 6, maxLocals := 5, code := prog_1_method_46_code, exceptionTable := #[], attributes := #[] }
def k2m44 : Method := { name := "bitCount", desc := "(J)I", sig := { parameters := [.long], returnType := some .int }, accessFlags := 2, code := some k2c44 }
/-- PageCompactorY -/
def k2 : Class := { plain "PageCompactorY" (some 0) with
  accessFlags := 49
  interfaces := #[]
  cf := some (fileOf pool2 8 #[] #[{ accessFlags := 1, nameIndex := 5, descriptorIndex := 72, attributes := #[] }, { accessFlags := 1, nameIndex := 220, descriptorIndex := 39, attributes := #[] }, { accessFlags := 1, nameIndex := 222, descriptorIndex := 223, attributes := #[] }, { accessFlags := 1, nameIndex := 224, descriptorIndex := 53, attributes := #[] }, { accessFlags := 1, nameIndex := 225, descriptorIndex := 226, attributes := #[] }, { accessFlags := 1, nameIndex := 227, descriptorIndex := 53, attributes := #[] }, { accessFlags := 1, nameIndex := 228, descriptorIndex := 53, attributes := #[] }, { accessFlags := 1, nameIndex := 229, descriptorIndex := 65, attributes := #[] }, { accessFlags := 1, nameIndex := 230, descriptorIndex := 65, attributes := #[] }, { accessFlags := 1, nameIndex := 231, descriptorIndex := 83, attributes := #[] }, { accessFlags := 1, nameIndex := 232, descriptorIndex := 65, attributes := #[] }, { accessFlags := 1, nameIndex := 233, descriptorIndex := 83, attributes := #[] }, { accessFlags := 1, nameIndex := 234, descriptorIndex := 83, attributes := #[] }, { accessFlags := 1, nameIndex := 235, descriptorIndex := 83, attributes := #[] }, { accessFlags := 1, nameIndex := 236, descriptorIndex := 83, attributes := #[] }, { accessFlags := 1, nameIndex := 237, descriptorIndex := 238, attributes := #[] }, { accessFlags := 2, nameIndex := 38, descriptorIndex := 39, attributes := #[] }, { accessFlags := 2, nameIndex := 78, descriptorIndex := 79, attributes := #[] }, { accessFlags := 2, nameIndex := 64, descriptorIndex := 65, attributes := #[] }, { accessFlags := 2, nameIndex := 68, descriptorIndex := 53, attributes := #[] }, { accessFlags := 2, nameIndex := 52, descriptorIndex := 53, attributes := #[] }, { accessFlags := 2, nameIndex := 90, descriptorIndex := 53, attributes := #[] }, { accessFlags := 2, nameIndex := 49, descriptorIndex := 6, attributes := #[] }, { accessFlags := 2, nameIndex := 71, descriptorIndex := 72, attributes := #[] }, { accessFlags := 2, nameIndex := 86, descriptorIndex := 87, attributes := #[] }, { accessFlags := 2, nameIndex := 152, descriptorIndex := 87, attributes := #[] }, { accessFlags := 2, nameIndex := 97, descriptorIndex := 72, attributes := #[] }, { accessFlags := 2, nameIndex := 75, descriptorIndex := 72, attributes := #[] }, { accessFlags := 2, nameIndex := 82, descriptorIndex := 83, attributes := #[] }, { accessFlags := 2, nameIndex := 155, descriptorIndex := 72, attributes := #[] }, { accessFlags := 2, nameIndex := 158, descriptorIndex := 83, attributes := #[] }, { accessFlags := 2, nameIndex := 181, descriptorIndex := 72, attributes := #[] }, { accessFlags := 2, nameIndex := 93, descriptorIndex := 94, attributes := #[] }, { accessFlags := 2, nameIndex := 128, descriptorIndex := 6, attributes := #[] }, { accessFlags := 2, nameIndex := 161, descriptorIndex := 94, attributes := #[] }, { accessFlags := 2, nameIndex := 112, descriptorIndex := 6, attributes := #[] }, { accessFlags := 2, nameIndex := 115, descriptorIndex := 6, attributes := #[] }, { accessFlags := 2, nameIndex := 118, descriptorIndex := 119, attributes := #[] }, { accessFlags := 2, nameIndex := 122, descriptorIndex := 72, attributes := #[] }, { accessFlags := 2, nameIndex := 147, descriptorIndex := 94, attributes := #[] }, { accessFlags := 2, nameIndex := 131, descriptorIndex := 94, attributes := #[] }, { accessFlags := 2, nameIndex := 174, descriptorIndex := 175, attributes := #[] }, { accessFlags := 2, nameIndex := 60, descriptorIndex := 61, attributes := #[] }, { accessFlags := 2, nameIndex := 178, descriptorIndex := 61, attributes := #[] }, { accessFlags := 2, nameIndex := 125, descriptorIndex := 61, attributes := #[] }] 49 2 #[] #[{ accessFlags := 25, nameIndex := 196, descriptorIndex := 43, attributes := #[] }, { accessFlags := 25, nameIndex := 199, descriptorIndex := 43, attributes := #[] }, { accessFlags := 25, nameIndex := 201, descriptorIndex := 43, attributes := #[] }, { accessFlags := 25, nameIndex := 203, descriptorIndex := 43, attributes := #[] }, { accessFlags := 25, nameIndex := 205, descriptorIndex := 43, attributes := #[] }, { accessFlags := 25, nameIndex := 207, descriptorIndex := 43, attributes := #[] }, { accessFlags := 25, nameIndex := 209, descriptorIndex := 43, attributes := #[] }, { accessFlags := 25, nameIndex := 211, descriptorIndex := 43, attributes := #[] }, { accessFlags := 25, nameIndex := 212, descriptorIndex := 43, attributes := #[] }, { accessFlags := 25, nameIndex := 214, descriptorIndex := 43, attributes := #[] }, { accessFlags := 25, nameIndex := 216, descriptorIndex := 43, attributes := #[] }, { accessFlags := 2, nameIndex := 42, descriptorIndex := 43, attributes := #[] }, { accessFlags := 2, nameIndex := 46, descriptorIndex := 43, attributes := #[] }, { accessFlags := 18, nameIndex := 11, descriptorIndex := 12, attributes := #[] }, { accessFlags := 18, nameIndex := 15, descriptorIndex := 16, attributes := #[] }, { accessFlags := 18, nameIndex := 19, descriptorIndex := 16, attributes := #[] }, { accessFlags := 18, nameIndex := 22, descriptorIndex := 16, attributes := #[] }, { accessFlags := 18, nameIndex := 25, descriptorIndex := 16, attributes := #[] }, { accessFlags := 18, nameIndex := 28, descriptorIndex := 16, attributes := #[] }, { accessFlags := 18, nameIndex := 31, descriptorIndex := 16, attributes := #[] }, { accessFlags := 2, nameIndex := 56, descriptorIndex := 57, attributes := #[] }, { accessFlags := 2, nameIndex := 134, descriptorIndex := 57, attributes := #[] }, { accessFlags := 2, nameIndex := 137, descriptorIndex := 57, attributes := #[] }, { accessFlags := 2, nameIndex := 140, descriptorIndex := 57, attributes := #[] }, { accessFlags := 18, nameIndex := 34, descriptorIndex := 35, attributes := #[] }, { accessFlags := 2, nameIndex := 143, descriptorIndex := 144, attributes := #[] }, { accessFlags := 2, nameIndex := 106, descriptorIndex := 43, attributes := #[] }, { accessFlags := 2, nameIndex := 109, descriptorIndex := 43, attributes := #[] }, { accessFlags := 2, nameIndex := 103, descriptorIndex := 43, attributes := #[] }, { accessFlags := 2, nameIndex := 100, descriptorIndex := 43, attributes := #[] }])
  fields := #[{ name := "PROCESSES", type := .int, accessFlags := 25, slot := 0, constantValue := 0 }, { name := "MAX_ORDER", type := .int, accessFlags := 25, slot := 1, constantValue := 0 }, { name := "FREE", type := .int, accessFlags := 25, slot := 2, constantValue := 0 }, { name := "MAPPED", type := .int, accessFlags := 25, slot := 3, constantValue := 0 }, { name := "PINNED", type := .int, accessFlags := 25, slot := 4, constantValue := 0 }, { name := "RESERVED", type := .int, accessFlags := 25, slot := 5, constantValue := 0 }, { name := "NONE", type := .int, accessFlags := 25, slot := 6, constantValue := 0 }, { name := "ERR_ARG", type := .int, accessFlags := 25, slot := 7, constantValue := 0 }, { name := "ERR_MAPPED", type := .int, accessFlags := 25, slot := 8, constantValue := 0 }, { name := "ERR_UNMAPPED", type := .int, accessFlags := 25, slot := 9, constantValue := 0 }, { name := "ERR_FULL", type := .int, accessFlags := 25, slot := 10, constantValue := 0 }, { name := "frameTotal", type := .int, accessFlags := 2, slot := 0, constantValue := 0 }, { name := "pageTotal", type := .int, accessFlags := 2, slot := 1, constantValue := 0 }, { name := "frameStates", type := (.array .byte), accessFlags := 18, slot := 2, constantValue := 0 }, { name := "frameValues", type := (.array .int), accessFlags := 18, slot := 3, constantValue := 0 }, { name := "frameCounts", type := (.array .int), accessFlags := 18, slot := 4, constantValue := 0 }, { name := "pageFrame", type := (.array .int), accessFlags := 18, slot := 5, constantValue := 0 }, { name := "rmapHead", type := (.array .int), accessFlags := 18, slot := 6, constantValue := 0 }, { name := "rmapNext", type := (.array .int), accessFlags := 18, slot := 7, constantValue := 0 }, { name := "rmapPrev", type := (.array .int), accessFlags := 18, slot := 8, constantValue := 0 }, { name := "freeSet", type := .long, accessFlags := 2, slot := 9, constantValue := 0 }, { name := "mappedSet", type := .long, accessFlags := 2, slot := 10, constantValue := 0 }, { name := "pinnedSet", type := .long, accessFlags := 2, slot := 11, constantValue := 0 }, { name := "reservedSet", type := .long, accessFlags := 2, slot := 12, constantValue := 0 }, { name := "runSet", type := (.array .long), accessFlags := 18, slot := 13, constantValue := 0 }, { name := "runsStale", type := .boolean, accessFlags := 2, slot := 14, constantValue := 0 }, { name := "scanMigrate", type := .int, accessFlags := 2, slot := 15, constantValue := 0 }, { name := "scanFree", type := .int, accessFlags := 2, slot := 16, constantValue := 0 }, { name := "scanMoved", type := .int, accessFlags := 2, slot := 17, constantValue := 0 }, { name := "scanLimit", type := .int, accessFlags := 2, slot := 18, constantValue := 0 }]
  methods := #[k2m0, k2m1, k2m2, k2m3, k2m4, k2m5, k2m6, k2m7, k2m8, k2m9, k2m10, k2m11, k2m12, k2m13, k2m14, k2m15, k2m16, k2m17, k2m18, k2m19, k2m20, k2m21, k2m22, k2m23, k2m24, k2m25, k2m26, k2m27, k2m28, k2m29, k2m30, k2m31, k2m32, k2m33, k2m34, k2m35, k2m36, k2m37, k2m38, k2m39, k2m40, k2m41, k2m42, k2m43, k2m44]
  instanceTypes := #[.int, .int, (.array .byte), (.array .int), (.array .int), (.array .int), (.array .int), (.array .int), (.array .int), .long, .long, .long, .long, (.array .long), .boolean, .int, .int, .int, .int]
  staticTypes := #[.int, .int, .int, .int, .int, .int, .int, .int, .int, .int, .int]
  resolved := Array.replicate 242 none
  statics := none }

def pool3 : Array CpInfo := pool [(1, u "java/lang/Cloneable"), (0, .class_ 1), (0, u "java/lang/Object"), (0, .class_ 3)] 3

/-- java/lang/Cloneable -/
def k3 : Class := { plain "java/lang/Cloneable" (some 0) with
  accessFlags := 1537
  interfaces := #[]
  cf := some (fileOf pool3 2 #[] #[] 1537 4 #[] #[])
  fields := #[]
  methods := #[]
  instanceTypes := #[]
  staticTypes := #[]
  resolved := Array.replicate 8 none
  statics := none }

def pool4 : Array CpInfo := pool [(1, u "java/io/Serializable"), (0, .class_ 1), (0, u "java/lang/Object"), (0, .class_ 3)] 3

/-- java/io/Serializable -/
def k4 : Class := { plain "java/io/Serializable" (some 0) with
  accessFlags := 1537
  interfaces := #[]
  cf := some (fileOf pool4 2 #[] #[] 1537 4 #[] #[])
  fields := #[]
  methods := #[]
  instanceTypes := #[]
  staticTypes := #[]
  resolved := Array.replicate 8 none
  statics := none }

/-- the primitive byte -/
def k5 : Class := { plain "byte" none with kind := .primitive 'B', accessFlags := 0x411 }
/-- [B -/
def k6 : Class := { plain "[B" (some 0) with kind := .array 5 .byte, interfaces := #[3, 4], accessFlags := 1041 }

/-- the primitive int -/
def k7 : Class := { plain "int" none with kind := .primitive 'I', accessFlags := 0x411 }
/-- [I -/
def k8 : Class := { plain "[I" (some 0) with kind := .array 7 .int, interfaces := #[3, 4], accessFlags := 1041 }

/-- the primitive long -/
def k9 : Class := { plain "long" none with kind := .primitive 'J', accessFlags := 0x411 }
/-- [J -/
def k10 : Class := { plain "[J" (some 0) with kind := .array 9 .long, interfaces := #[3, 4], accessFlags := 1041 }

def heap : Heap := #[{ cls := 8, slots := #[.int 0, .int 1, .int 2], vm := .none }]
def classes : Array Class := #[k0, k1, k2, k3, k4, k5, k6, k7, k8, k9, k10]
def interned : List (Array UInt16 × Addr) := []
def slotsUsed : Nat := 3
def theMethod : MethodId := ⟨1, 4⟩
def args0 : Array Value := #[.ref 0]
def aboutOver (below : List Frame) : State where
  vm := { classes := classes, interned := interned.toArray }
  heap := heap
  slotsUsed := slotsUsed
  threads := #[{ frames := .invoking theMethod args0 :: below }]
def below0 : List Frame := [.native { method := ⟨0, 0⟩, args := #[] }]
def about1 : State := aboutOver below0
def p0 : Program := .bare "" "" ""
def e0 : Env := launch0.env 0 0 0
theorem w_frames : about1.frames = Frame.invoking theMethod args0 :: below0 := rfl
set_option maxRecDepth 65536 in
theorem w_args : argsFit about1.vm theMethod args0 = true := by decide +kernel
set_option maxRecDepth 65536 in
theorem w_heap : heapFits about1 = true := by decide +kernel
set_option maxRecDepth 65536 in
theorem w_runnable : about1.curStatus? = some .runnable := by decide +kernel
set_option maxRecDepth 65536 in
theorem w_alone : about1.alone = true := by decide +kernel
set_option maxRecDepth 65536 in
theorem w_named : about1.methodNamed? x = some theMethod := by decide +kernel
set_option maxRecDepth 65536 in
theorem w_hears : about1.hears theMethod below0 = true := by decide +kernel
set_option maxRecDepth 65536 in
theorem w_ripe : about1.ripe theMethod args0 below0 = true := by decide +kernel
theorem w_running : about1.status = .running := rfl
set_option maxRecDepth 65536 in
theorem w_room : about1.hasRoom e0.platform room_1 = true :=
  launch0.hasRoom_least _ room_1 (by decide +kernel) (by decide +kernel) (by decide +kernel) (by decide +kernel) (by decide +kernel) (by decide +kernel)
theorem allAtoms_all (ts : List Jvm.Cond) (a : Array Jvm.Value) (st : Jvm.State) : (allAtoms ts).before a st = ts.all (fun c => c.before a st) := by
  induction ts with
  | nil => rfl
  | cons c t ih =>
    show (Jvm.Cond.and c (allAtoms t)).before a st = _
    rw [Jvm.Cond.before_and, ih, List.all_cons]
def words1 : List Jvm.Cond := Jvm.Cond.code x code maxLocals ret :: tables_1
/-- a 'code' word, met by the world's own term for the bytes: nothing is compared byte by byte -/
theorem code_word {y : MethodName} {bytes : ByteArray} {mx : Nat} {rt : Option FieldType} {a : Array Value} {s : State} {m : MethodId} {meth : Method} {c : Code} (h1 : s.methodNamed? y = some m) (h2 : s.vm.method? m = some meth) (h3 : meth.code = some c) (h4 : c.code = bytes)
    (h5 : (c.maxLocals == mx && c.exceptionTable.isEmpty && decide (c.maxStack ≤ mostOperands) && decide (meth.sig.returnType = rt) && !meth.locks && decide (parseMethodDescriptor y.desc = some meth.sig)) = true) : (Jvm.Cond.code y bytes mx rt).before a s = true := by
  simp only [Bool.and_eq_true, beq_iff_eq, Bool.not_eq_true', decide_eq_true_eq] at h5
  obtain ⟨⟨⟨⟨⟨g1, g2⟩, g3⟩, g4⟩, g5⟩, g6⟩ := h5
  simp [Cond.before, Cond.holds, Cond.value, h1, h2, h3, h4, g1, g2, g3, g4, g5, g6]
def isCode : Jvm.Cond → Bool
  | .code _ _ _ _ => true
  | _ => false
theorem all_split {L : List Jvm.Cond} {P : Jvm.Cond → Bool} (h1 : L.all (fun c => isCode c || P c) = true) (h2 : ∀ c ∈ L.filter isCode, P c = true) : L.all P = true := by
  refine List.all_eq_true.mpr fun c hc => ?_
  have h := List.all_eq_true.mp h1 c hc
  rcases Bool.eq_false_or_eq_true (isCode c) with hi | hi
  · exact h2 c (List.mem_filter.mpr ⟨hc, hi⟩)
  · simpa [hi] using h
set_option maxRecDepth 65536 in
theorem w_c0 : (Jvm.Cond.code x code maxLocals ret).before args0 about1 = true := code_word (m := ⟨1, 4⟩) (meth := k1m4) (c := k1c4) (by decide +kernel) rfl rfl rfl (by decide +kernel)
set_option maxRecDepth 65536 in
theorem w_c1 : (Jvm.Cond.code ({ cls := "PageCompactorYOwnLaw", name := "cell", desc := "([II)I" } : Jvm.MethodName) method_2_code (2 : Nat) (Option.some Jvm.ClassFile.FieldType.int)).before args0 about1 = true := code_word (m := ⟨1, 1⟩) (meth := k1m1) (c := k1c1) (by decide +kernel) rfl rfl rfl (by decide +kernel)
set_option maxRecDepth 65536 in
theorem w_c2 : (Jvm.Cond.code ({ cls := "PageCompactorYOwnLaw", name := "mod", desc := "(II)I" } : Jvm.MethodName) method_3_code (3 : Nat) (Option.some Jvm.ClassFile.FieldType.int)).before args0 about1 = true := code_word (m := ⟨1, 2⟩) (meth := k1m2) (c := k1c2) (by decide +kernel) rfl rfl rfl (by decide +kernel)
set_option maxRecDepth 65536 in
theorem w_c3 : (Jvm.Cond.code ({ cls := "PageCompactorY", name := "<init>", desc := "(II)V" } : Jvm.MethodName) prog_1_method_1_code (3 : Nat) (Option.none : Option Jvm.ClassFile.FieldType)).before args0 about1 = true := code_word (m := ⟨2, 0⟩) (meth := k2m0) (c := k2c0) (by decide +kernel) rfl rfl rfl (by decide +kernel)
set_option maxRecDepth 65536 in
theorem w_c4 : (Jvm.Cond.code ({ cls := "java/lang/Object", name := "<init>", desc := "()V" } : Jvm.MethodName) object_method_1_code (1 : Nat) (Option.none : Option Jvm.ClassFile.FieldType)).before args0 about1 = true := code_word (m := ⟨0, 0⟩) (meth := k0m0) (c := k0c0) (by decide +kernel) rfl rfl rfl (by decide +kernel)
set_option maxRecDepth 65536 in
theorem w_c5 : (Jvm.Cond.code ({ cls := "PageCompactorY", name := "clampInt", desc := "(III)I" } : Jvm.MethodName) prog_1_method_18_code (4 : Nat) (Option.some Jvm.ClassFile.FieldType.int)).before args0 about1 = true := code_word (m := ⟨2, 16⟩) (meth := k2m16) (c := k2c16) (by decide +kernel) rfl rfl rfl (by decide +kernel)
set_option maxRecDepth 65536 in
theorem w_c6 : (Jvm.Cond.code ({ cls := "PageCompactorY", name := "resetAll", desc := "()V" } : Jvm.MethodName) prog_1_method_24_code (2 : Nat) (Option.none : Option Jvm.ClassFile.FieldType)).before args0 about1 = true := code_word (m := ⟨2, 22⟩) (meth := k2m22) (c := k2c22) (by decide +kernel) rfl rfl rfl (by decide +kernel)
set_option maxRecDepth 65536 in
theorem w_c7 : (Jvm.Cond.code ({ cls := "PageCompactorY", name := "lowMask", desc := "(I)J" } : Jvm.MethodName) prog_1_method_42_code (2 : Nat) (Option.some Jvm.ClassFile.FieldType.long)).before args0 about1 = true := code_word (m := ⟨2, 40⟩) (meth := k2m40) (c := k2c40) (by decide +kernel) rfl rfl rfl (by decide +kernel)
set_option maxRecDepth 65536 in
theorem w_c8 : (Jvm.Cond.code ({ cls := "PageCompactorYOwnLaw", name := "apply", desc := "(LPageCompactorY;IIIIII)V" } : Jvm.MethodName) method_4_code (10 : Nat) (Option.none : Option Jvm.ClassFile.FieldType)).before args0 about1 = true := code_word (m := ⟨1, 3⟩) (meth := k1m3) (c := k1c3) (by decide +kernel) rfl rfl rfl (by decide +kernel)
set_option maxRecDepth 65536 in
theorem w_c9 : (Jvm.Cond.code ({ cls := "PageCompactorY", name := "mapNew", desc := "(III)I" } : Jvm.MethodName) prog_1_method_2_code (7 : Nat) (Option.some Jvm.ClassFile.FieldType.int)).before args0 about1 = true := code_word (m := ⟨2, 1⟩) (meth := k2m1) (c := k2c1) (by decide +kernel) rfl rfl rfl (by decide +kernel)
set_option maxRecDepth 65536 in
theorem w_c10 : (Jvm.Cond.code ({ cls := "PageCompactorY", name := "checkTarget", desc := "(II)I" } : Jvm.MethodName) prog_1_method_22_code (4 : Nat) (Option.some Jvm.ClassFile.FieldType.int)).before args0 about1 = true := code_word (m := ⟨2, 20⟩) (meth := k2m20) (c := k2c20) (by decide +kernel) rfl rfl rfl (by decide +kernel)
set_option maxRecDepth 65536 in
theorem w_c11 : (Jvm.Cond.code ({ cls := "PageCompactorY", name := "pageInRange", desc := "(II)Z" } : Jvm.MethodName) prog_1_method_19_code (3 : Nat) (Option.some Jvm.ClassFile.FieldType.boolean)).before args0 about1 = true := code_word (m := ⟨2, 17⟩) (meth := k2m17) (c := k2c17) (by decide +kernel) rfl rfl rfl (by decide +kernel)
set_option maxRecDepth 65536 in
theorem w_c12 : (Jvm.Cond.code ({ cls := "PageCompactorY", name := "slotOf", desc := "(II)I" } : Jvm.MethodName) prog_1_method_21_code (3 : Nat) (Option.some Jvm.ClassFile.FieldType.int)).before args0 about1 = true := code_word (m := ⟨2, 19⟩) (meth := k2m19) (c := k2c19) (by decide +kernel) rfl rfl rfl (by decide +kernel)
set_option maxRecDepth 65536 in
theorem w_c13 : (Jvm.Cond.code ({ cls := "PageCompactorY", name := "lowestBit", desc := "(J)I" } : Jvm.MethodName) prog_1_method_44_code (6 : Nat) (Option.some Jvm.ClassFile.FieldType.int)).before args0 about1 = true := code_word (m := ⟨2, 42⟩) (meth := k2m42) (c := k2c42) (by decide +kernel) rfl rfl rfl (by decide +kernel)
set_option maxRecDepth 65536 in
theorem w_c14 : (Jvm.Cond.code ({ cls := "PageCompactorY", name := "frameInRange", desc := "(I)Z" } : Jvm.MethodName) prog_1_method_20_code (2 : Nat) (Option.some Jvm.ClassFile.FieldType.boolean)).before args0 about1 = true := code_word (m := ⟨2, 18⟩) (meth := k2m18) (c := k2c18) (by decide +kernel) rfl rfl rfl (by decide +kernel)
set_option maxRecDepth 65536 in
theorem w_c15 : (Jvm.Cond.code ({ cls := "PageCompactorY", name := "enterState", desc := "(II)V" } : Jvm.MethodName) prog_1_method_25_code (5 : Nat) (Option.none : Option Jvm.ClassFile.FieldType)).before args0 about1 = true := code_word (m := ⟨2, 23⟩) (meth := k2m23) (c := k2c23) (by decide +kernel) rfl rfl rfl (by decide +kernel)
set_option maxRecDepth 65536 in
theorem w_c16 : (Jvm.Cond.code ({ cls := "PageCompactorY", name := "bitOf", desc := "(I)J" } : Jvm.MethodName) prog_1_method_41_code (2 : Nat) (Option.some Jvm.ClassFile.FieldType.long)).before args0 about1 = true := code_word (m := ⟨2, 39⟩) (meth := k2m39) (c := k2c39) (by decide +kernel) rfl rfl rfl (by decide +kernel)
set_option maxRecDepth 65536 in
theorem w_c17 : (Jvm.Cond.code ({ cls := "PageCompactorY", name := "attachPage", desc := "(II)V" } : Jvm.MethodName) prog_1_method_29_code (3 : Nat) (Option.none : Option Jvm.ClassFile.FieldType)).before args0 about1 = true := code_word (m := ⟨2, 27⟩) (meth := k2m27) (c := k2c27) (by decide +kernel) rfl rfl rfl (by decide +kernel)
set_option maxRecDepth 65536 in
theorem w_c18 : (Jvm.Cond.code ({ cls := "PageCompactorY", name := "rmapLink", desc := "(II)V" } : Jvm.MethodName) prog_1_method_31_code (4 : Nat) (Option.none : Option Jvm.ClassFile.FieldType)).before args0 about1 = true := code_word (m := ⟨2, 29⟩) (meth := k2m29) (c := k2c29) (by decide +kernel) rfl rfl rfl (by decide +kernel)
set_option maxRecDepth 65536 in
theorem w_c19 : (Jvm.Cond.code ({ cls := "PageCompactorY", name := "unmap", desc := "(II)I" } : Jvm.MethodName) prog_1_method_4_code (5 : Nat) (Option.some Jvm.ClassFile.FieldType.int)).before args0 about1 = true := code_word (m := ⟨2, 3⟩) (meth := k2m3) (c := k2c3) (by decide +kernel) rfl rfl rfl (by decide +kernel)
set_option maxRecDepth 65536 in
theorem w_c20 : (Jvm.Cond.code ({ cls := "PageCompactorY", name := "detachPage", desc := "(I)I" } : Jvm.MethodName) prog_1_method_30_code (3 : Nat) (Option.some Jvm.ClassFile.FieldType.int)).before args0 about1 = true := code_word (m := ⟨2, 28⟩) (meth := k2m28) (c := k2c28) (by decide +kernel) rfl rfl rfl (by decide +kernel)
set_option maxRecDepth 65536 in
theorem w_c21 : (Jvm.Cond.code ({ cls := "PageCompactorY", name := "rmapUnlink", desc := "(I)I" } : Jvm.MethodName) prog_1_method_32_code (5 : Nat) (Option.some Jvm.ClassFile.FieldType.int)).before args0 about1 = true := code_word (m := ⟨2, 30⟩) (meth := k2m30) (c := k2c30) (by decide +kernel) rfl rfl rfl (by decide +kernel)
set_option maxRecDepth 65536 in
theorem w_c22 : (Jvm.Cond.code ({ cls := "PageCompactorY", name := "freeFrame", desc := "(I)V" } : Jvm.MethodName) prog_1_method_26_code (2 : Nat) (Option.none : Option Jvm.ClassFile.FieldType)).before args0 about1 = true := code_word (m := ⟨2, 24⟩) (meth := k2m24) (c := k2c24) (by decide +kernel) rfl rfl rfl (by decide +kernel)
set_option maxRecDepth 65536 in
theorem w_c23 : (Jvm.Cond.code ({ cls := "PageCompactorY", name := "share", desc := "(IIII)I" } : Jvm.MethodName) prog_1_method_3_code (8 : Nat) (Option.some Jvm.ClassFile.FieldType.int)).before args0 about1 = true := code_word (m := ⟨2, 2⟩) (meth := k2m2) (c := k2c2) (by decide +kernel) rfl rfl rfl (by decide +kernel)
set_option maxRecDepth 65536 in
theorem w_c24 : (Jvm.Cond.code ({ cls := "PageCompactorY", name := "compact", desc := "(I)I" } : Jvm.MethodName) prog_1_method_12_code (3 : Nat) (Option.some Jvm.ClassFile.FieldType.int)).before args0 about1 = true := code_word (m := ⟨2, 11⟩) (meth := k2m11) (c := k2c11) (by decide +kernel) rfl rfl rfl (by decide +kernel)
set_option maxRecDepth 65536 in
theorem w_c25 : (Jvm.Cond.code ({ cls := "PageCompactorY", name := "advanceMigrateScanner", desc := "()V" } : Jvm.MethodName) prog_1_method_37_code (5 : Nat) (Option.none : Option Jvm.ClassFile.FieldType)).before args0 about1 = true := code_word (m := ⟨2, 35⟩) (meth := k2m35) (c := k2c35) (by decide +kernel) rfl rfl rfl (by decide +kernel)
set_option maxRecDepth 65536 in
theorem w_c26 : (Jvm.Cond.code ({ cls := "PageCompactorY", name := "rangeMask", desc := "(II)J" } : Jvm.MethodName) prog_1_method_43_code (7 : Nat) (Option.some Jvm.ClassFile.FieldType.long)).before args0 about1 = true := code_word (m := ⟨2, 41⟩) (meth := k2m41) (c := k2c41) (by decide +kernel) rfl rfl rfl (by decide +kernel)
set_option maxRecDepth 65536 in
theorem w_c27 : (Jvm.Cond.code ({ cls := "PageCompactorY", name := "retreatFreeScanner", desc := "()V" } : Jvm.MethodName) prog_1_method_38_code (5 : Nat) (Option.none : Option Jvm.ClassFile.FieldType)).before args0 about1 = true := code_word (m := ⟨2, 36⟩) (meth := k2m36) (c := k2c36) (by decide +kernel) rfl rfl rfl (by decide +kernel)
set_option maxRecDepth 65536 in
theorem w_c28 : (Jvm.Cond.code ({ cls := "PageCompactorY", name := "highestBit", desc := "(J)I" } : Jvm.MethodName) prog_1_method_45_code (6 : Nat) (Option.some Jvm.ClassFile.FieldType.int)).before args0 about1 = true := code_word (m := ⟨2, 43⟩) (meth := k2m43) (c := k2c43) (by decide +kernel) rfl rfl rfl (by decide +kernel)
set_option maxRecDepth 65536 in
theorem w_c29 : (Jvm.Cond.code ({ cls := "PageCompactorY", name := "scannersDone", desc := "()Z" } : Jvm.MethodName) prog_1_method_39_code (1 : Nat) (Option.some Jvm.ClassFile.FieldType.boolean)).before args0 about1 = true := code_word (m := ⟨2, 37⟩) (meth := k2m37) (c := k2c37) (by decide +kernel) rfl rfl rfl (by decide +kernel)
set_option maxRecDepth 65536 in
theorem w_c30 : (Jvm.Cond.code ({ cls := "PageCompactorY", name := "freeCount", desc := "()I" } : Jvm.MethodName) prog_1_method_16_code (1 : Nat) (Option.some Jvm.ClassFile.FieldType.int)).before args0 about1 = true := code_word (m := ⟨2, 15⟩) (meth := k2m15) (c := k2c15) (by decide +kernel) rfl rfl rfl (by decide +kernel)
set_option maxRecDepth 65536 in
theorem w_c31 : (Jvm.Cond.code ({ cls := "PageCompactorY", name := "bitCount", desc := "(J)I" } : Jvm.MethodName) prog_1_method_46_code (5 : Nat) (Option.some Jvm.ClassFile.FieldType.int)).before args0 about1 = true := code_word (m := ⟨2, 44⟩) (meth := k2m44) (c := k2c44) (by decide +kernel) rfl rfl rfl (by decide +kernel)
set_option maxRecDepth 65536 in
theorem w_c32 : (Jvm.Cond.code ({ cls := "PageCompactorY", name := "read", desc := "(II)I" } : Jvm.MethodName) prog_1_method_6_code (4 : Nat) (Option.some Jvm.ClassFile.FieldType.int)).before args0 about1 = true := code_word (m := ⟨2, 5⟩) (meth := k2m5) (c := k2c5) (by decide +kernel) rfl rfl rfl (by decide +kernel)
set_option maxRecDepth 65536 in
theorem w_c33 : (Jvm.Cond.code ({ cls := "PageCompactorY", name := "mappedFrame", desc := "(II)I" } : Jvm.MethodName) prog_1_method_23_code (5 : Nat) (Option.some Jvm.ClassFile.FieldType.int)).before args0 about1 = true := code_word (m := ⟨2, 21⟩) (meth := k2m21) (c := k2c21) (by decide +kernel) rfl rfl rfl (by decide +kernel)
set_option maxRecDepth 65536 in
theorem w_c34 : (Jvm.Cond.code ({ cls := "PageCompactorY", name := "frameOf", desc := "(II)I" } : Jvm.MethodName) prog_1_method_7_code (4 : Nat) (Option.some Jvm.ClassFile.FieldType.int)).before args0 about1 = true := code_word (m := ⟨2, 6⟩) (meth := k2m6) (c := k2c6) (by decide +kernel) rfl rfl rfl (by decide +kernel)
set_option maxRecDepth 65536 in
theorem w_c35 : (Jvm.Cond.code ({ cls := "PageCompactorY", name := "frameState", desc := "(I)I" } : Jvm.MethodName) prog_1_method_13_code (2 : Nat) (Option.some Jvm.ClassFile.FieldType.int)).before args0 about1 = true := code_word (m := ⟨2, 12⟩) (meth := k2m12) (c := k2c12) (by decide +kernel) rfl rfl rfl (by decide +kernel)
set_option maxRecDepth 65536 in
theorem w_c36 : (Jvm.Cond.code ({ cls := "PageCompactorY", name := "pin", desc := "(I)Z" } : Jvm.MethodName) prog_1_method_8_code (2 : Nat) (Option.some Jvm.ClassFile.FieldType.boolean)).before args0 about1 = true := code_word (m := ⟨2, 7⟩) (meth := k2m7) (c := k2c7) (by decide +kernel) rfl rfl rfl (by decide +kernel)
set_option maxRecDepth 65536 in
theorem w_c37 : (Jvm.Cond.code ({ cls := "PageCompactorY", name := "release", desc := "(I)Z" } : Jvm.MethodName) prog_1_method_11_code (2 : Nat) (Option.some Jvm.ClassFile.FieldType.boolean)).before args0 about1 = true := code_word (m := ⟨2, 10⟩) (meth := k2m10) (c := k2c10) (by decide +kernel) rfl rfl rfl (by decide +kernel)
set_option maxRecDepth 65536 in
theorem w_c38 : (Jvm.Cond.code ({ cls := "PageCompactorY", name := "write", desc := "(III)Z" } : Jvm.MethodName) prog_1_method_5_code (5 : Nat) (Option.some Jvm.ClassFile.FieldType.boolean)).before args0 about1 = true := code_word (m := ⟨2, 4⟩) (meth := k2m4) (c := k2c4) (by decide +kernel) rfl rfl rfl (by decide +kernel)
set_option maxRecDepth 65536 in
theorem w_c39 : (Jvm.Cond.code ({ cls := "PageCompactorY", name := "allocBlock", desc := "(I)I" } : Jvm.MethodName) prog_1_method_10_code (5 : Nat) (Option.some Jvm.ClassFile.FieldType.int)).before args0 about1 = true := code_word (m := ⟨2, 9⟩) (meth := k2m9) (c := k2c9) (by decide +kernel) rfl rfl rfl (by decide +kernel)
set_option maxRecDepth 65536 in
theorem w_c40 : (Jvm.Cond.code ({ cls := "PageCompactorY", name := "freeRunsOfOrder", desc := "(I)J" } : Jvm.MethodName) prog_1_method_34_code (2 : Nat) (Option.some Jvm.ClassFile.FieldType.long)).before args0 about1 = true := code_word (m := ⟨2, 32⟩) (meth := k2m32) (c := k2c32) (by decide +kernel) rfl rfl rfl (by decide +kernel)
set_option maxRecDepth 65536 in
theorem w_c41 : (Jvm.Cond.code ({ cls := "PageCompactorY", name := "refreshRuns", desc := "()V" } : Jvm.MethodName) prog_1_method_35_code (7 : Nat) (Option.none : Option Jvm.ClassFile.FieldType)).before args0 about1 = true := code_word (m := ⟨2, 33⟩) (meth := k2m33) (c := k2c33) (by decide +kernel) rfl rfl rfl (by decide +kernel)
set_option maxRecDepth 65536 in
theorem w_c42 : (Jvm.Cond.code ({ cls := "PageCompactorY", name := "alignMask", desc := "(I)J" } : Jvm.MethodName) prog_1_method_36_code (2 : Nat) (Option.some Jvm.ClassFile.FieldType.long)).before args0 about1 = true := code_word (m := ⟨2, 34⟩) (meth := k2m34) (c := k2c34) (by decide +kernel) rfl rfl rfl (by decide +kernel)
set_option maxRecDepth 65536 in
theorem w_c43 : (Jvm.Cond.code ({ cls := "PageCompactorY", name := "reserveRun", desc := "(II)V" } : Jvm.MethodName) prog_1_method_28_code (5 : Nat) (Option.none : Option Jvm.ClassFile.FieldType)).before args0 about1 = true := code_word (m := ⟨2, 26⟩) (meth := k2m26) (c := k2c26) (by decide +kernel) rfl rfl rfl (by decide +kernel)
set_option maxRecDepth 65536 in
theorem w_c44 : (Jvm.Cond.code ({ cls := "PageCompactorY", name := "reserveFrame", desc := "(I)V" } : Jvm.MethodName) prog_1_method_27_code (2 : Nat) (Option.none : Option Jvm.ClassFile.FieldType)).before args0 about1 = true := code_word (m := ⟨2, 25⟩) (meth := k2m25) (c := k2c25) (by decide +kernel) rfl rfl rfl (by decide +kernel)
set_option maxRecDepth 65536 in
theorem w_c45 : (Jvm.Cond.code ({ cls := "PageCompactorY", name := "frameValue", desc := "(I)I" } : Jvm.MethodName) prog_1_method_14_code (3 : Nat) (Option.some Jvm.ClassFile.FieldType.int)).before args0 about1 = true := code_word (m := ⟨2, 13⟩) (meth := k2m13) (c := k2c13) (by decide +kernel) rfl rfl rfl (by decide +kernel)
set_option maxRecDepth 65536 in
theorem w_c46 : (Jvm.Cond.code ({ cls := "PageCompactorY", name := "mapCount", desc := "(I)I" } : Jvm.MethodName) prog_1_method_15_code (2 : Nat) (Option.some Jvm.ClassFile.FieldType.int)).before args0 about1 = true := code_word (m := ⟨2, 14⟩) (meth := k2m14) (c := k2c14) (by decide +kernel) rfl rfl rfl (by decide +kernel)
set_option maxRecDepth 65536 in
theorem w_c47 : (Jvm.Cond.code ({ cls := "PageCompactorY", name := "unpin", desc := "(I)Z" } : Jvm.MethodName) prog_1_method_9_code (2 : Nat) (Option.some Jvm.ClassFile.FieldType.boolean)).before args0 about1 = true := code_word (m := ⟨2, 8⟩) (meth := k2m8) (c := k2c8) (by decide +kernel) rfl rfl rfl (by decide +kernel)
set_option maxRecDepth 65536 in
theorem w_c48 : (Jvm.Cond.code ({ cls := "PageCompactorY", name := "migrateFrame", desc := "(II)V" } : Jvm.MethodName) prog_1_method_40_code (5 : Nat) (Option.none : Option Jvm.ClassFile.FieldType)).before args0 about1 = true := code_word (m := ⟨2, 38⟩) (meth := k2m38) (c := k2c38) (by decide +kernel) rfl rfl rfl (by decide +kernel)
set_option maxRecDepth 65536 in
theorem w_c49 : (Jvm.Cond.code ({ cls := "PageCompactorY", name := "rmapTransfer", desc := "(II)V" } : Jvm.MethodName) prog_1_method_33_code (5 : Nat) (Option.none : Option Jvm.ClassFile.FieldType)).before args0 about1 = true := code_word (m := ⟨2, 31⟩) (meth := k2m31) (c := k2c31) (by decide +kernel) rfl rfl rfl (by decide +kernel)
def codes1 : List Jvm.Cond := [Jvm.Cond.code x code maxLocals ret, Jvm.Cond.code ({ cls := "PageCompactorYOwnLaw", name := "cell", desc := "([II)I" } : Jvm.MethodName) method_2_code (2 : Nat) (Option.some Jvm.ClassFile.FieldType.int), Jvm.Cond.code ({ cls := "PageCompactorYOwnLaw", name := "mod", desc := "(II)I" } : Jvm.MethodName) method_3_code (3 : Nat) (Option.some Jvm.ClassFile.FieldType.int), Jvm.Cond.code ({ cls := "PageCompactorY", name := "<init>", desc := "(II)V" } : Jvm.MethodName) prog_1_method_1_code (3 : Nat) (Option.none : Option Jvm.ClassFile.FieldType), Jvm.Cond.code ({ cls := "java/lang/Object", name := "<init>", desc := "()V" } : Jvm.MethodName) object_method_1_code (1 : Nat) (Option.none : Option Jvm.ClassFile.FieldType), Jvm.Cond.code ({ cls := "PageCompactorY", name := "clampInt", desc := "(III)I" } : Jvm.MethodName) prog_1_method_18_code (4 : Nat) (Option.some Jvm.ClassFile.FieldType.int), Jvm.Cond.code ({ cls := "PageCompactorY", name := "resetAll", desc := "()V" } : Jvm.MethodName) prog_1_method_24_code (2 : Nat) (Option.none : Option Jvm.ClassFile.FieldType), Jvm.Cond.code ({ cls := "PageCompactorY", name := "lowMask", desc := "(I)J" } : Jvm.MethodName) prog_1_method_42_code (2 : Nat) (Option.some Jvm.ClassFile.FieldType.long), Jvm.Cond.code ({ cls := "PageCompactorYOwnLaw", name := "apply", desc := "(LPageCompactorY;IIIIII)V" } : Jvm.MethodName) method_4_code (10 : Nat) (Option.none : Option Jvm.ClassFile.FieldType), Jvm.Cond.code ({ cls := "PageCompactorY", name := "mapNew", desc := "(III)I" } : Jvm.MethodName) prog_1_method_2_code (7 : Nat) (Option.some Jvm.ClassFile.FieldType.int), Jvm.Cond.code ({ cls := "PageCompactorY", name := "checkTarget", desc := "(II)I" } : Jvm.MethodName) prog_1_method_22_code (4 : Nat) (Option.some Jvm.ClassFile.FieldType.int), Jvm.Cond.code ({ cls := "PageCompactorY", name := "pageInRange", desc := "(II)Z" } : Jvm.MethodName) prog_1_method_19_code (3 : Nat) (Option.some Jvm.ClassFile.FieldType.boolean), Jvm.Cond.code ({ cls := "PageCompactorY", name := "slotOf", desc := "(II)I" } : Jvm.MethodName) prog_1_method_21_code (3 : Nat) (Option.some Jvm.ClassFile.FieldType.int), Jvm.Cond.code ({ cls := "PageCompactorY", name := "lowestBit", desc := "(J)I" } : Jvm.MethodName) prog_1_method_44_code (6 : Nat) (Option.some Jvm.ClassFile.FieldType.int), Jvm.Cond.code ({ cls := "PageCompactorY", name := "frameInRange", desc := "(I)Z" } : Jvm.MethodName) prog_1_method_20_code (2 : Nat) (Option.some Jvm.ClassFile.FieldType.boolean), Jvm.Cond.code ({ cls := "PageCompactorY", name := "enterState", desc := "(II)V" } : Jvm.MethodName) prog_1_method_25_code (5 : Nat) (Option.none : Option Jvm.ClassFile.FieldType), Jvm.Cond.code ({ cls := "PageCompactorY", name := "bitOf", desc := "(I)J" } : Jvm.MethodName) prog_1_method_41_code (2 : Nat) (Option.some Jvm.ClassFile.FieldType.long), Jvm.Cond.code ({ cls := "PageCompactorY", name := "attachPage", desc := "(II)V" } : Jvm.MethodName) prog_1_method_29_code (3 : Nat) (Option.none : Option Jvm.ClassFile.FieldType), Jvm.Cond.code ({ cls := "PageCompactorY", name := "rmapLink", desc := "(II)V" } : Jvm.MethodName) prog_1_method_31_code (4 : Nat) (Option.none : Option Jvm.ClassFile.FieldType), Jvm.Cond.code ({ cls := "PageCompactorY", name := "unmap", desc := "(II)I" } : Jvm.MethodName) prog_1_method_4_code (5 : Nat) (Option.some Jvm.ClassFile.FieldType.int), Jvm.Cond.code ({ cls := "PageCompactorY", name := "detachPage", desc := "(I)I" } : Jvm.MethodName) prog_1_method_30_code (3 : Nat) (Option.some Jvm.ClassFile.FieldType.int), Jvm.Cond.code ({ cls := "PageCompactorY", name := "rmapUnlink", desc := "(I)I" } : Jvm.MethodName) prog_1_method_32_code (5 : Nat) (Option.some Jvm.ClassFile.FieldType.int), Jvm.Cond.code ({ cls := "PageCompactorY", name := "freeFrame", desc := "(I)V" } : Jvm.MethodName) prog_1_method_26_code (2 : Nat) (Option.none : Option Jvm.ClassFile.FieldType), Jvm.Cond.code ({ cls := "PageCompactorY", name := "share", desc := "(IIII)I" } : Jvm.MethodName) prog_1_method_3_code (8 : Nat) (Option.some Jvm.ClassFile.FieldType.int), Jvm.Cond.code ({ cls := "PageCompactorY", name := "compact", desc := "(I)I" } : Jvm.MethodName) prog_1_method_12_code (3 : Nat) (Option.some Jvm.ClassFile.FieldType.int), Jvm.Cond.code ({ cls := "PageCompactorY", name := "advanceMigrateScanner", desc := "()V" } : Jvm.MethodName) prog_1_method_37_code (5 : Nat) (Option.none : Option Jvm.ClassFile.FieldType), Jvm.Cond.code ({ cls := "PageCompactorY", name := "rangeMask", desc := "(II)J" } : Jvm.MethodName) prog_1_method_43_code (7 : Nat) (Option.some Jvm.ClassFile.FieldType.long), Jvm.Cond.code ({ cls := "PageCompactorY", name := "retreatFreeScanner", desc := "()V" } : Jvm.MethodName) prog_1_method_38_code (5 : Nat) (Option.none : Option Jvm.ClassFile.FieldType), Jvm.Cond.code ({ cls := "PageCompactorY", name := "highestBit", desc := "(J)I" } : Jvm.MethodName) prog_1_method_45_code (6 : Nat) (Option.some Jvm.ClassFile.FieldType.int), Jvm.Cond.code ({ cls := "PageCompactorY", name := "scannersDone", desc := "()Z" } : Jvm.MethodName) prog_1_method_39_code (1 : Nat) (Option.some Jvm.ClassFile.FieldType.boolean), Jvm.Cond.code ({ cls := "PageCompactorY", name := "freeCount", desc := "()I" } : Jvm.MethodName) prog_1_method_16_code (1 : Nat) (Option.some Jvm.ClassFile.FieldType.int), Jvm.Cond.code ({ cls := "PageCompactorY", name := "bitCount", desc := "(J)I" } : Jvm.MethodName) prog_1_method_46_code (5 : Nat) (Option.some Jvm.ClassFile.FieldType.int), Jvm.Cond.code ({ cls := "PageCompactorY", name := "read", desc := "(II)I" } : Jvm.MethodName) prog_1_method_6_code (4 : Nat) (Option.some Jvm.ClassFile.FieldType.int), Jvm.Cond.code ({ cls := "PageCompactorY", name := "mappedFrame", desc := "(II)I" } : Jvm.MethodName) prog_1_method_23_code (5 : Nat) (Option.some Jvm.ClassFile.FieldType.int), Jvm.Cond.code ({ cls := "PageCompactorY", name := "frameOf", desc := "(II)I" } : Jvm.MethodName) prog_1_method_7_code (4 : Nat) (Option.some Jvm.ClassFile.FieldType.int), Jvm.Cond.code ({ cls := "PageCompactorY", name := "frameState", desc := "(I)I" } : Jvm.MethodName) prog_1_method_13_code (2 : Nat) (Option.some Jvm.ClassFile.FieldType.int), Jvm.Cond.code ({ cls := "PageCompactorY", name := "pin", desc := "(I)Z" } : Jvm.MethodName) prog_1_method_8_code (2 : Nat) (Option.some Jvm.ClassFile.FieldType.boolean), Jvm.Cond.code ({ cls := "PageCompactorY", name := "release", desc := "(I)Z" } : Jvm.MethodName) prog_1_method_11_code (2 : Nat) (Option.some Jvm.ClassFile.FieldType.boolean), Jvm.Cond.code ({ cls := "PageCompactorY", name := "write", desc := "(III)Z" } : Jvm.MethodName) prog_1_method_5_code (5 : Nat) (Option.some Jvm.ClassFile.FieldType.boolean), Jvm.Cond.code ({ cls := "PageCompactorY", name := "allocBlock", desc := "(I)I" } : Jvm.MethodName) prog_1_method_10_code (5 : Nat) (Option.some Jvm.ClassFile.FieldType.int), Jvm.Cond.code ({ cls := "PageCompactorY", name := "freeRunsOfOrder", desc := "(I)J" } : Jvm.MethodName) prog_1_method_34_code (2 : Nat) (Option.some Jvm.ClassFile.FieldType.long), Jvm.Cond.code ({ cls := "PageCompactorY", name := "refreshRuns", desc := "()V" } : Jvm.MethodName) prog_1_method_35_code (7 : Nat) (Option.none : Option Jvm.ClassFile.FieldType), Jvm.Cond.code ({ cls := "PageCompactorY", name := "alignMask", desc := "(I)J" } : Jvm.MethodName) prog_1_method_36_code (2 : Nat) (Option.some Jvm.ClassFile.FieldType.long), Jvm.Cond.code ({ cls := "PageCompactorY", name := "reserveRun", desc := "(II)V" } : Jvm.MethodName) prog_1_method_28_code (5 : Nat) (Option.none : Option Jvm.ClassFile.FieldType), Jvm.Cond.code ({ cls := "PageCompactorY", name := "reserveFrame", desc := "(I)V" } : Jvm.MethodName) prog_1_method_27_code (2 : Nat) (Option.none : Option Jvm.ClassFile.FieldType), Jvm.Cond.code ({ cls := "PageCompactorY", name := "frameValue", desc := "(I)I" } : Jvm.MethodName) prog_1_method_14_code (3 : Nat) (Option.some Jvm.ClassFile.FieldType.int), Jvm.Cond.code ({ cls := "PageCompactorY", name := "mapCount", desc := "(I)I" } : Jvm.MethodName) prog_1_method_15_code (2 : Nat) (Option.some Jvm.ClassFile.FieldType.int), Jvm.Cond.code ({ cls := "PageCompactorY", name := "unpin", desc := "(I)Z" } : Jvm.MethodName) prog_1_method_9_code (2 : Nat) (Option.some Jvm.ClassFile.FieldType.boolean), Jvm.Cond.code ({ cls := "PageCompactorY", name := "migrateFrame", desc := "(II)V" } : Jvm.MethodName) prog_1_method_40_code (5 : Nat) (Option.none : Option Jvm.ClassFile.FieldType), Jvm.Cond.code ({ cls := "PageCompactorY", name := "rmapTransfer", desc := "(II)V" } : Jvm.MethodName) prog_1_method_33_code (5 : Nat) (Option.none : Option Jvm.ClassFile.FieldType)]
set_option maxRecDepth 65536 in
theorem codes_eq : words1.filter isCode = codes1 := rfl
theorem w_codes : ∀ c ∈ words1.filter isCode, c.before args0 about1 = true := by
  rw [codes_eq]
  intro c hc
  simp only [codes1, List.mem_cons, List.not_mem_nil, or_false] at hc
  rcases hc with rfl | rfl | rfl | rfl | rfl | rfl | rfl | rfl | rfl | rfl | rfl | rfl | rfl | rfl | rfl | rfl | rfl | rfl | rfl | rfl | rfl | rfl | rfl | rfl | rfl | rfl | rfl | rfl | rfl | rfl | rfl | rfl | rfl | rfl | rfl | rfl | rfl | rfl | rfl | rfl | rfl | rfl | rfl | rfl | rfl | rfl | rfl | rfl | rfl | rfl
  · exact w_c0
  · exact w_c1
  · exact w_c2
  · exact w_c3
  · exact w_c4
  · exact w_c5
  · exact w_c6
  · exact w_c7
  · exact w_c8
  · exact w_c9
  · exact w_c10
  · exact w_c11
  · exact w_c12
  · exact w_c13
  · exact w_c14
  · exact w_c15
  · exact w_c16
  · exact w_c17
  · exact w_c18
  · exact w_c19
  · exact w_c20
  · exact w_c21
  · exact w_c22
  · exact w_c23
  · exact w_c24
  · exact w_c25
  · exact w_c26
  · exact w_c27
  · exact w_c28
  · exact w_c29
  · exact w_c30
  · exact w_c31
  · exact w_c32
  · exact w_c33
  · exact w_c34
  · exact w_c35
  · exact w_c36
  · exact w_c37
  · exact w_c38
  · exact w_c39
  · exact w_c40
  · exact w_c41
  · exact w_c42
  · exact w_c43
  · exact w_c44
  · exact w_c45
  · exact w_c46
  · exact w_c47
  · exact w_c48
  · exact w_c49
set_option maxRecDepth 65536 in
theorem w_t1 : (words1.take 24).all (fun c => isCode c || c.before args0 about1) = true := by decide +kernel
set_option maxRecDepth 65536 in
theorem w_t2 : ((words1.drop 24).take 24).all (fun c => isCode c || c.before args0 about1) = true := by decide +kernel
set_option maxRecDepth 65536 in
theorem w_t3 : (((words1.drop 24).drop 24).take 24).all (fun c => isCode c || c.before args0 about1) = true := by decide +kernel
set_option maxRecDepth 65536 in
theorem w_t4 : ((((words1.drop 24).drop 24).drop 24).take 24).all (fun c => isCode c || c.before args0 about1) = true := by decide +kernel
set_option maxRecDepth 65536 in
theorem w_t5 : (((((words1.drop 24).drop 24).drop 24).drop 24).take 24).all (fun c => isCode c || c.before args0 about1) = true := by decide +kernel
set_option maxRecDepth 65536 in
theorem w_t6 : ((((((words1.drop 24).drop 24).drop 24).drop 24).drop 24).take 24).all (fun c => isCode c || c.before args0 about1) = true := by decide +kernel
set_option maxRecDepth 65536 in
theorem w_t7 : (((((((words1.drop 24).drop 24).drop 24).drop 24).drop 24).drop 24).take 24).all (fun c => isCode c || c.before args0 about1) = true := by decide +kernel
set_option maxRecDepth 65536 in
theorem w_t8 : ((((((((words1.drop 24).drop 24).drop 24).drop 24).drop 24).drop 24).drop 24).take 24).all (fun c => isCode c || c.before args0 about1) = true := by decide +kernel
set_option maxRecDepth 65536 in
theorem w_t9 : (((((((((words1.drop 24).drop 24).drop 24).drop 24).drop 24).drop 24).drop 24).drop 24).take 24).all (fun c => isCode c || c.before args0 about1) = true := by decide +kernel
set_option maxRecDepth 65536 in
theorem w_t10 : ((((((((((words1.drop 24).drop 24).drop 24).drop 24).drop 24).drop 24).drop 24).drop 24).drop 24).take 24).all (fun c => isCode c || c.before args0 about1) = true := by decide +kernel
set_option maxRecDepth 65536 in
theorem w_t11 : (((((((((((words1.drop 24).drop 24).drop 24).drop 24).drop 24).drop 24).drop 24).drop 24).drop 24).drop 24).take 24).all (fun c => isCode c || c.before args0 about1) = true := by decide +kernel
set_option maxRecDepth 65536 in
theorem w_t12 : (((((((((((words1.drop 24).drop 24).drop 24).drop 24).drop 24).drop 24).drop 24).drop 24).drop 24).drop 24).drop 24).all (fun c => isCode c || c.before args0 about1) = true := by decide +kernel
theorem w_tables : (allAtoms (Jvm.Cond.code x code maxLocals ret :: tables_1)).before args0 about1 = true := by
  rw [allAtoms_all]
  show words1.all (fun c => c.before args0 about1) = true
  refine all_split ?_ w_codes
  rw [← List.take_append_drop 24 words1, List.all_append, w_t1, ← List.take_append_drop 24 (words1.drop 24), List.all_append, w_t2, ← List.take_append_drop 24 ((words1.drop 24).drop 24), List.all_append, w_t3, ← List.take_append_drop 24 (((words1.drop 24).drop 24).drop 24), List.all_append, w_t4, ← List.take_append_drop 24 ((((words1.drop 24).drop 24).drop 24).drop 24), List.all_append, w_t5, ← List.take_append_drop 24 (((((words1.drop 24).drop 24).drop 24).drop 24).drop 24), List.all_append, w_t6, ← List.take_append_drop 24 ((((((words1.drop 24).drop 24).drop 24).drop 24).drop 24).drop 24), List.all_append, w_t7, ← List.take_append_drop 24 (((((((words1.drop 24).drop 24).drop 24).drop 24).drop 24).drop 24).drop 24), List.all_append, w_t8, ← List.take_append_drop 24 ((((((((words1.drop 24).drop 24).drop 24).drop 24).drop 24).drop 24).drop 24).drop 24), List.all_append, w_t9, ← List.take_append_drop 24 (((((((((words1.drop 24).drop 24).drop 24).drop 24).drop 24).drop 24).drop 24).drop 24).drop 24), List.all_append, w_t10, ← List.take_append_drop 24 ((((((((((words1.drop 24).drop 24).drop 24).drop 24).drop 24).drop 24).drop 24).drop 24).drop 24).drop 24), List.all_append, w_t11, w_t12]
  rfl
set_option maxRecDepth 65536 in
theorem w_rest : rest_1_c.before args0 about1 = true := by decide +kernel
set_option maxRecDepth 65536 in
theorem w_case : (Jvm.Cond.and given_1 narrow_1).before args0 about1 = true := by decide +kernel
theorem w_applies : (headSpec (Jvm.Cond.code x code maxLocals ret :: tables_1) room_1).applies x e0.platform about1 = true :=
  (Spec.applies_iff w_frames).mpr ⟨w_running, w_runnable, w_alone, w_named, w_hears, w_ripe, w_room, w_tables⟩
theorem atStart : AtStart classFile x code maxLocals ret World_1 tables_1 room_1 Calls_1 rest_1 Pre_1 launch0 p0 e0 about1 theMethod args0 below0 :=
  ⟨lists_1, trivial, launch0.admits_env _ _ _, launch0.least_env, fairChoices_fair.cas, fairChoices_fair.clock, w_frames, w_args, w_heap, w_applies, trivial, w_rest, w_case⟩
end start1
theorem witness_1 : WitnessClaimed_1 := ⟨start1.p0, start1.e0, start1.about1, start1.theMethod, start1.args0, start1.below0, start1.atStart⟩
end Jvm.Pilot.@@N@@
