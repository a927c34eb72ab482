import JvmDerived
import JvmDerived.Pilot.@@N@@Statement
import JvmDerived.Pilot.@@N@@Code
set_option linter.unusedVariables false
set_option linter.unusedSimpArgs false
namespace Jvm.AM
open Sem ClassFile Op Lib Jvm.Stand Jvm.Free Jvm.LawKit Jvm.RoadKit
/-! ## 1. The abstract objects: one object of the class, its scalars and its arrays by number -/
abbrev S : Type := (Nat → Int32) × (Nat → Int64) × (Nat → List Int32) × (Nat → List Int64)
def aupd {A : Type} (g : Nat → A) (f : Nat) (v : A) : Nat → A := fun x => if x = f then v else g x
def gI (s : S) (f : Nat) : Int32 := s.1 f
def gL (s : S) (f : Nat) : Int64 := s.2.1 f
def gA (s : S) (f : Nat) : List Int32 := s.2.2.1 f
def gB (s : S) (f : Nat) : List Int64 := s.2.2.2 f
def sI (s : S) (f : Nat) (v : Int32) : S := (aupd s.1 f v, s.2)
def sL (s : S) (f : Nat) (v : Int64) : S := (s.1, aupd s.2.1 f v, s.2.2)
def sA (s : S) (f : Nat) (v : List Int32) : S := (s.1, s.2.1, aupd s.2.2.1 f v, s.2.2.2)
def sB (s : S) (f : Nat) (v : List Int64) : S := (s.1, s.2.1, s.2.2.1, aupd s.2.2.2 f v)
def s0 : S := (fun _ => 0, fun _ => 0, fun _ => [], fun _ => [])
theorem gI_s0 (f : Nat) : gI s0 f = 0 := by simp only [gI, s0]
theorem gL_s0 (f : Nat) : gL s0 f = 0 := by simp only [gL, s0]
theorem gA_s0 (f : Nat) : gA s0 f = [] := by simp only [gA, s0]
theorem gB_s0 (f : Nat) : gB s0 f = [] := by simp only [gB, s0]
theorem gI_sI (s : S) (f g : Nat) (v : Int32) : gI (sI s f v) g = if g = f then v else gI s g := by simp only [gI, gL, gA, gB, sI, sL, sA, sB, aupd]
theorem gI_sL (s : S) (f g : Nat) (v : Int64) : gI (sL s f v) g = gI s g := by simp only [gI, gL, gA, gB, sI, sL, sA, sB, aupd]
theorem gI_sA (s : S) (f g : Nat) (v : List Int32) : gI (sA s f v) g = gI s g := by simp only [gI, gL, gA, gB, sI, sL, sA, sB, aupd]
theorem gI_sB (s : S) (f g : Nat) (v : List Int64) : gI (sB s f v) g = gI s g := by simp only [gI, gL, gA, gB, sI, sL, sA, sB, aupd]
theorem gL_sI (s : S) (f g : Nat) (v : Int32) : gL (sI s f v) g = gL s g := by simp only [gI, gL, gA, gB, sI, sL, sA, sB, aupd]
theorem gL_sL (s : S) (f g : Nat) (v : Int64) : gL (sL s f v) g = if g = f then v else gL s g := by simp only [gI, gL, gA, gB, sI, sL, sA, sB, aupd]
theorem gL_sA (s : S) (f g : Nat) (v : List Int32) : gL (sA s f v) g = gL s g := by simp only [gI, gL, gA, gB, sI, sL, sA, sB, aupd]
theorem gL_sB (s : S) (f g : Nat) (v : List Int64) : gL (sB s f v) g = gL s g := by simp only [gI, gL, gA, gB, sI, sL, sA, sB, aupd]
theorem gA_sI (s : S) (f g : Nat) (v : Int32) : gA (sI s f v) g = gA s g := by simp only [gI, gL, gA, gB, sI, sL, sA, sB, aupd]
theorem gA_sL (s : S) (f g : Nat) (v : Int64) : gA (sL s f v) g = gA s g := by simp only [gI, gL, gA, gB, sI, sL, sA, sB, aupd]
theorem gA_sA (s : S) (f g : Nat) (v : List Int32) : gA (sA s f v) g = if g = f then v else gA s g := by simp only [gI, gL, gA, gB, sI, sL, sA, sB, aupd]
theorem gA_sB (s : S) (f g : Nat) (v : List Int64) : gA (sB s f v) g = gA s g := by simp only [gI, gL, gA, gB, sI, sL, sA, sB, aupd]
theorem gB_sI (s : S) (f g : Nat) (v : Int32) : gB (sI s f v) g = gB s g := by simp only [gI, gL, gA, gB, sI, sL, sA, sB, aupd]
theorem gB_sL (s : S) (f g : Nat) (v : Int64) : gB (sL s f v) g = gB s g := by simp only [gI, gL, gA, gB, sI, sL, sA, sB, aupd]
theorem gB_sA (s : S) (f g : Nat) (v : List Int32) : gB (sA s f v) g = gB s g := by simp only [gI, gL, gA, gB, sI, sL, sA, sB, aupd]
theorem gB_sB (s : S) (f g : Nat) (v : List Int64) : gB (sB s f v) g = if g = f then v else gB s g := by simp only [gI, gL, gA, gB, sI, sL, sA, sB, aupd]
def rep {A : Type} (n : Nat) (x : A) : List A := List.replicate n x
theorem rep_length {A : Type} (n : Nat) (x : A) : (rep n x).length = n := by simp only [rep, List.length_replicate]
theorem rep_get {A : Type} (n : Nat) (x : A) (k : Nat) : (rep n x)[k]? = if k < n then some x else none := by simp only [rep, List.getElem?_replicate]
theorem rep_set {A : Type} (n : Nat) (x : A) (k : Nat) : (rep n x).set k x = rep n x := by simp only [rep, List.set_replicate_self]
/-- reading and writing a component -/
def ix {A : Type} (l : List A) (j : Int32) : Option A := if j < 0 then none else l[j.toNatClampNeg]?
def st {A : Type} (l : List A) (j : Int32) (x : A) : Option (List A) := if j < 0 then none else if j.toNatClampNeg < l.length then some (l.set j.toNatClampNeg x) else none
/-- the world of a run: the script array, if there is one; the objects made so far, each with the number of arrays that it has been given -/
abbrev W : Type := Option (List Int32) × List (Nat × S)
/-- the class: name, slots, scalar fields (name, descriptor, type), array fields in the order of their making (name, descriptor, component type, most slots) -/
abbrev CI : Type := String × Nat × List (String × String × FieldType) × List (String × String × FieldType × Nat)
def cN (c : CI) : String := c.1
def cF (c : CI) : Nat := c.2.1
def cS (c : CI) : List (String × String × FieldType) := c.2.2.1
def cA (c : CI) : List (String × String × FieldType × Nat) := c.2.2.2
def cK (c : CI) : Nat := (cA c).length
/-- the program: the sheet's words, the class -/
abbrev PI : Type := List Jvm.Cond × CI
/-- a method: name, bytes, variables, return type, room, most objects, whether it makes cells, cells and slots at its start -/
abbrev Meth : Type := MethodName × ByteArray × Nat × Option FieldType × Room × Nat × Bool × Nat × Nat
def mY (M : Meth) : MethodName := M.1
def mB (M : Meth) : ByteArray := M.2.1
def mL (M : Meth) : Nat := M.2.2.1
def mT (M : Meth) : Option FieldType := M.2.2.2.1
def mR (M : Meth) : Room := M.2.2.2.2.1
def mN (M : Meth) : Nat := M.2.2.2.2.2.1
def mTop (M : Meth) : Bool := M.2.2.2.2.2.2.1
def mUC (M : Meth) : Nat := M.2.2.2.2.2.2.2.1
def mUS (M : Meth) : Nat := M.2.2.2.2.2.2.2.2
/-! ## 2. Abstract references: 0 the script; j + 1 the cell at b + j -/
def con (α b : Nat) : Value → Value
  | .ref 0 => .ref α
  | .ref (j + 1) => .ref (b + j)
  | v => v
def cs (α b : Nat) : Slot → Slot
  | .val v => .val (con α b v)
  | .unset => .unset
  | .second => .second
def cL (α b : Nat) (L : List Slot) : Array Slot := (L.map (cs α b)).toArray
def cV (α b : Nat) (l : List Value) : List Value := l.map (con α b)
theorem con_cat (α b : Nat) (v : Value) : (con α b v).category = v.category := by
  cases v <;> try rfl
  rename_i a; cases a <;> rfl
theorem con_ref (α b : Nat) (v : Value) : (con α b v).isRef = v.isRef := by
  cases v <;> try rfl
  rename_i a; cases a <;> rfl
theorem cL_get {α b : Nat} {L : List Slot} {k : Nat} {x : Slot} (h : L[k]? = some x) : (cL α b L)[k]? = some (cs α b x) := by
  simp [cL, List.getElem?_toArray, List.getElem?_map, h]
theorem cL_size (α b : Nat) (L : List Slot) : (cL α b L).size = L.length := by simp [cL]
theorem cV_sum (α b : Nat) (l : List Value) : ((cV α b l).map fun v => v.category).sum = (l.map fun v => v.category).sum := by
  simp [cV, List.map_map, Function.comp_def, con_cat]
theorem setAt_map {α b : Nat} {l l' : Array Slot} {i : Nat} {x : Slot} (h : setAt l i x = some l') : setAt (l.map (cs α b)) i (cs α b x) = some (l'.map (cs α b)) := by
  unfold setAt at h ⊢
  split at h
  · rename_i q
    cases h
    rw [if_pos (by simpa using q)]
    simp [Array.map_setIfInBounds]
  · cases h
theorem storeSelf_map {α b : Nat} {l l' : Array Slot} {i : Nat} {v : Value} (h : storeSelf l i v = some l') : storeSelf (l.map (cs α b)) i (con α b v) = some (l'.map (cs α b)) := by
  simp only [storeSelf, Option.bind_eq_bind, Option.bind_eq_some_iff] at h ⊢
  obtain ⟨l1, h1, h2⟩ := h
  refine ⟨l1.map (cs α b), setAt_map (x := .val v) h1, ?_⟩
  rw [con_cat]
  split at h2
  · rename_i q
    rw [if_pos q]
    obtain ⟨x, h3, h4⟩ := Option.bind_eq_some_iff.mp h2
    refine Option.bind_eq_some_iff.mpr ⟨cs α b x, by simp [h3], ?_⟩
    cases x with
    | unset => exact setAt_map (x := .second) h4
    | second => exact setAt_map (x := .second) h4
    | val old =>
      simp only [cs, con_cat] at h4 ⊢
      split at h4
      · rename_i q2
        rw [if_pos q2]
        obtain ⟨y, h5, h6⟩ := Option.bind_eq_some_iff.mp h4
        exact Option.bind_eq_some_iff.mpr ⟨_, setAt_map (x := .unset) h5, setAt_map (x := .second) h6⟩
      · rename_i q2
        rw [if_neg q2]
        exact setAt_map (x := .second) h4
  · rename_i q
    rw [if_neg q]
    cases h2; rfl
theorem store_map {α b : Nat} {l l' : Array Slot} {i : Nat} {v : Value} (h : storeLocals l i v = some l') : storeLocals (l.map (cs α b)) i (con α b v) = some (l'.map (cs α b)) := by
  simp only [storeLocals, Option.bind_eq_bind, Option.bind_eq_some_iff] at h ⊢
  obtain ⟨x, h1, h2⟩ := h
  refine ⟨cs α b x, by simp [h1], ?_⟩
  cases x with
  | unset => exact storeSelf_map h2
  | second =>
    obtain ⟨y, h3, h4⟩ := Option.bind_eq_some_iff.mp h2
    exact Option.bind_eq_some_iff.mpr ⟨_, setAt_map (x := .unset) h3, storeSelf_map h4⟩
  | val old =>
    simp only [cs, con_cat] at h2 ⊢
    split at h2
    · rename_i q
      rw [if_pos q]
      obtain ⟨y, h3, h4⟩ := Option.bind_eq_some_iff.mp h2
      exact Option.bind_eq_some_iff.mpr ⟨_, setAt_map (x := .unset) h3, storeSelf_map h4⟩
    · rename_i q
      rw [if_neg q]
      exact storeSelf_map h2
theorem storeC {α b : Nat} {L L' : List Slot} {i : Nat} {v : Value} (h : storeLocals L.toArray i v = some L'.toArray) : storeLocals (cL α b L) i (con α b v) = some (cL α b L') := by
  have := store_map (α := α) (b := b) h
  simpa [cL] using this
theorem setAt_size {l l' : Array Slot} {i : Nat} {x : Slot} (h : setAt l i x = some l') : l'.size = l.size := by
  unfold setAt at h; split at h <;> cases h; simp
theorem storeSelf_size {l l' : Array Slot} {i : Nat} {v : Value} (h : storeSelf l i v = some l') : l'.size = l.size := by
  simp only [storeSelf, Option.bind_eq_bind, Option.bind_eq_some_iff] at h
  obtain ⟨l1, h1, h2⟩ := h
  have e1 := setAt_size h1
  split at h2
  · obtain ⟨x, h3, h4⟩ := Option.bind_eq_some_iff.mp h2
    cases x with
    | unset => exact (setAt_size h4).trans e1
    | second => exact (setAt_size h4).trans e1
    | val old =>
      dsimp only at h4
      split at h4
      · obtain ⟨y, h5, h6⟩ := Option.bind_eq_some_iff.mp h4
        exact (setAt_size h6).trans ((setAt_size h5).trans e1)
      · exact (setAt_size h4).trans e1
  · cases h2; exact e1
theorem store_size {l l' : Array Slot} {i : Nat} {v : Value} (h : storeLocals l i v = some l') : l'.size = l.size := by
  simp only [storeLocals, Option.bind_eq_bind, Option.bind_eq_some_iff] at h
  obtain ⟨x, h1, h2⟩ := h
  cases x with
  | unset => exact storeSelf_size h2
  | second =>
    obtain ⟨y, h3, h4⟩ := Option.bind_eq_some_iff.mp h2
    exact (storeSelf_size h4).trans (setAt_size h3)
  | val old =>
    dsimp only at h2
    split at h2
    · obtain ⟨y, h3, h4⟩ := Option.bind_eq_some_iff.mp h2
      exact (storeSelf_size h4).trans (setAt_size h3)
    · exact storeSelf_size h2
/-- a variable that may be written over by a value of one word -/
def k1 (o : Slot) : Prop := o = .unset ∨ ∃ w, o = .val w ∧ w.category = 1
def k2 (o o2 : Slot) : Prop := (o = .unset ∧ o2 = .unset) ∨ ∃ u, o = .val (.long u) ∧ o2 = .second
theorem setAt_l {L : List Slot} {k : Nat} {x : Slot} (h : k < L.length) : setAt L.toArray k x = some (L.set k x).toArray := by simp [setAt, h]
theorem get_l {L : List Slot} {k : Nat} {o : Slot} (h : L[k]? = some o) : L.toArray[k]? = some o := by rw [List.getElem?_toArray]; exact h
theorem store_u {L : List Slot} {k : Nat} {v : Value} (h : L[k]? = some .unset) : storeLocals L.toArray k v = storeSelf L.toArray k v := by
  simp only [storeLocals, Option.bind_eq_bind, get_l h, Option.bind_some]
theorem store_1 {L : List Slot} {k : Nat} {v w : Value} (h : L[k]? = some (.val w)) (hw : w.category = 1) : storeLocals L.toArray k v = storeSelf L.toArray k v := by
  simp only [storeLocals, Option.bind_eq_bind, get_l h, Option.bind_some]
  rw [if_neg (by rw [hw]; decide)]
theorem store_k {L : List Slot} {k : Nat} {v : Value} {o : Slot} (h : L[k]? = some o) (ho : k1 o) : storeLocals L.toArray k v = storeSelf L.toArray k v := by
  rcases ho with rfl | ⟨w, rfl, hw⟩
  · exact store_u h
  · exact store_1 h hw
theorem store_2 {L : List Slot} {k : Nat} {v w : Value} (h : L[k]? = some (.val w)) (hw : w.category = 2) (l2 : k + 1 < L.length) : storeLocals L.toArray k v = storeSelf (L.set (k + 1) .unset).toArray k v := by
  simp only [storeLocals, Option.bind_eq_bind, get_l h, Option.bind_some]
  rw [if_pos hw, setAt_l l2, Option.bind_some]
theorem self_1 {L : List Slot} {k : Nat} {v : Value} (hv : v.category = 1) (l : k < L.length) : storeSelf L.toArray k v = some (L.set k (.val v)).toArray := by
  simp only [storeSelf, Option.bind_eq_bind, setAt_l l, Option.bind_some]
  rw [if_neg (by rw [hv]; decide)]
theorem self_2 {L : List Slot} {k : Nat} {v : Value} {o : Slot} (hv : v.category = 2) (h : L[k + 1]? = some o) (ho : k1 o ∨ o = .second) (l : k < L.length) : storeSelf L.toArray k v = some ((L.set k (.val v)).set (k + 1) .second).toArray := by
  have l2 := (List.getElem?_eq_some_iff.mp h).1
  have e2 : (L.set k (.val v))[k + 1]? = some o := by rw [List.getElem?_set_ne (by omega)]; exact h
  simp only [storeSelf, Option.bind_eq_bind, setAt_l l, Option.bind_some]
  rw [if_pos hv, get_l e2, Option.bind_some]
  rcases ho with (rfl | ⟨w, rfl, hw⟩) | rfl
  · exact setAt_l (by rw [List.length_set]; exact l2)
  · dsimp only
    rw [if_neg (by rw [hw]; decide)]
    exact setAt_l (by rw [List.length_set]; exact l2)
  · exact setAt_l (by rw [List.length_set]; exact l2)
theorem self_3 {L : List Slot} {k : Nat} {v w : Value} (hv : v.category = 2) (h : L[k + 1]? = some (.val w)) (hw : w.category = 2) (l3 : k + 2 < L.length) (l : k < L.length) : storeSelf L.toArray k v = some (((L.set k (.val v)).set (k + 2) .unset).set (k + 1) .second).toArray := by
  have l2 := (List.getElem?_eq_some_iff.mp h).1
  have e2 : (L.set k (.val v))[k + 1]? = some (.val w) := by rw [List.getElem?_set_ne (by omega)]; exact h
  simp only [storeSelf, Option.bind_eq_bind, setAt_l l, Option.bind_some]
  rw [if_pos hv, get_l e2, Option.bind_some]
  dsimp only
  rw [if_pos hw, setAt_l (by rw [List.length_set]; exact l3), Option.bind_some, setAt_l (by rw [List.length_set, List.length_set]; exact l2)]
theorem stx {L : List Slot} {k : Nat} {o : Slot} {v : Value} (h : L[k]? = some o) (ho : k1 o) (hv : v.category = 1) : storeLocals L.toArray k v = some (L.set k (.val v)).toArray := by
  rw [store_k h ho, self_1 hv (List.getElem?_eq_some_iff.mp h).1]
theorem stx3 {L : List Slot} {k : Nat} {o o2 : Slot} {u : Int64} (h : L[k]? = some o) (h2 : L[k + 1]? = some o2) (ho : k1 o) (ho2 : k1 o2) : storeLocals L.toArray k (.long u) = some ((L.set k (.val (.long u))).set (k + 1) .second).toArray := by
  rw [store_k h ho, self_2 rfl h2 (Or.inl ho2) (List.getElem?_eq_some_iff.mp h).1]
theorem stx2 {L : List Slot} {k : Nat} {o o2 : Slot} {u : Int64} (h : L[k]? = some o) (h2 : L[k + 1]? = some o2) (ho : k2 o o2) : storeLocals L.toArray k (.long u) = some ((L.set k (.val (.long u))).set (k + 1) .second).toArray := by
  have l1 := (List.getElem?_eq_some_iff.mp h).1
  have l2 := (List.getElem?_eq_some_iff.mp h2).1
  rcases ho with ⟨rfl, rfl⟩ | ⟨u', rfl, rfl⟩
  · exact stx3 h h2 (Or.inl rfl) (Or.inl rfl)
  · rw [store_2 h rfl l2, self_2 (o := .unset) rfl (by rw [List.getElem?_set_self l2]) (Or.inl (Or.inl rfl)) (by rw [List.length_set]; exact l1)]
    rw [List.set_comm _ _ (show k + 1 ≠ k by omega), List.set_set]
theorem stx4 {L : List Slot} {k : Nat} {o2 : Slot} {w : Int64} {v : Value} (h : L[k]? = some (.val (.long w))) (h2 : L[k + 1]? = some o2) (hv : v.category = 1) : storeLocals L.toArray k v = some ((L.set (k + 1) .unset).set k (.val v)).toArray := by
  rw [store_2 h rfl (List.getElem?_eq_some_iff.mp h2).1, self_1 hv (by rw [List.length_set]; exact (List.getElem?_eq_some_iff.mp h).1)]
theorem stx5 {L : List Slot} {k : Nat} {o o3 : Slot} {w u : Int64} (h : L[k]? = some o) (ho : k1 o) (h2 : L[k + 1]? = some (.val (.long w))) (h3 : L[k + 2]? = some o3) : storeLocals L.toArray k (.long u) = some (((L.set k (.val (.long u))).set (k + 2) .unset).set (k + 1) .second).toArray := by
  rw [store_k h ho, self_3 rfl h2 rfl (List.getElem?_eq_some_iff.mp h3).1 (List.getElem?_eq_some_iff.mp h).1]
/-- a tail of dead variables -/
def wtf : Slot ⊕ Int64 → List Slot
  | .inl x => [x]
  | .inr u => [.val (.long u), .second]
def WT (D : List Slot) : Prop := ∃ l : List (Slot ⊕ Int64), D = l.flatMap wtf ∧ ∀ x, Sum.inl x ∈ l → k1 x
theorem wt0 : WT [] := ⟨[], rfl, fun _ h => nomatch h⟩
theorem wt1 {x : Slot} {D : List Slot} (h : k1 x) (W : WT D) : WT (x :: D) := by
  obtain ⟨l, rfl, g⟩ := W
  refine ⟨.inl x :: l, by simp [wtf], fun y hy => ?_⟩
  rcases List.mem_cons.mp hy with e | e
  · cases e; exact h
  · exact g y e
theorem wt2 {u : Int64} {D : List Slot} (W : WT D) : WT (.val (.long u) :: .second :: D) := by
  obtain ⟨l, rfl, g⟩ := W
  refine ⟨.inr u :: l, by simp [wtf], fun y hy => ?_⟩
  rcases List.mem_cons.mp hy with e | e
  · cases e
  · exact g y e
theorem wt12 {x y : Slot} {D : List Slot} (h : k2 x y) (W : WT D) : WT (x :: y :: D) := by
  rcases h with ⟨rfl, rfl⟩ | ⟨u, rfl, rfl⟩
  · exact wt1 (Or.inl rfl) (wt1 (Or.inl rfl) W)
  · exact wt2 W
theorem wt_cases {D : List Slot} (W : WT D) : D = [] ∨ (∃ x E, D = x :: E ∧ k1 x ∧ WT E) ∨ ∃ u E, D = .val (.long u) :: .second :: E ∧ WT E := by
  obtain ⟨l, rfl, g⟩ := W
  match l, g with
  | [], _ => exact Or.inl rfl
  | .inl x :: r, g => exact Or.inr (Or.inl ⟨x, r.flatMap wtf, by simp [wtf], g x (List.mem_cons_self ..), r, rfl, fun y hy => g y (List.mem_cons_of_mem _ hy)⟩)
  | .inr u :: r, g => exact Or.inr (Or.inr ⟨u, r.flatMap wtf, by simp [wtf], r, rfl, fun y hy => g y (List.mem_cons_of_mem _ hy)⟩)
theorem stT {L0 D : List Slot} {v : Value} {n : Nat} (W : WT D) (hl : D.length = n + 1) (hv : v.category = 1) : ∃ D', WT D' ∧ D'.length = n ∧ storeLocals (L0 ++ D).toArray L0.length v = some (L0 ++ ([.val v] : List Slot) ++ D').toArray := by
  rcases wt_cases W with rfl | ⟨x, E, rfl, hx, WE⟩ | ⟨u, E, rfl, WE⟩
  · simp at hl
  · refine ⟨E, WE, by simpa using hl, ?_⟩
    rw [stx (o := x) (by simp) hx hv]; simp
  · refine ⟨.unset :: E, wt1 (Or.inl rfl) WE, by simpa using hl, ?_⟩
    rw [stx4 (w := u) (o2 := .second) (by simp) (by rw [List.getElem?_append_right (by omega)]; simp) hv]
    simp [List.set_append]
theorem stT2 {L0 D : List Slot} {u : Int64} {n : Nat} (W : WT D) (hl : D.length = n + 2) : ∃ D', WT D' ∧ D'.length = n ∧ storeLocals (L0 ++ D).toArray L0.length (.long u) = some (L0 ++ ([.val (.long u), .second] : List Slot) ++ D').toArray := by
  rcases wt_cases W with rfl | ⟨x, E, rfl, hx, WE⟩ | ⟨w, E, rfl, WE⟩
  · simp at hl
  · rcases wt_cases WE with rfl | ⟨y, F, rfl, hy, WF⟩ | ⟨w, F, rfl, WF⟩
    · simp at hl
    · refine ⟨F, WF, by simpa using hl, ?_⟩
      rw [stx3 (o := x) (o2 := y) (by simp) (by rw [List.getElem?_append_right (by omega)]; simp) hx hy]
      simp [List.set_append]
    · refine ⟨.unset :: F, wt1 (Or.inl rfl) WF, by simpa using hl, ?_⟩
      rw [stx5 (o := x) (w := w) (o3 := .second) (by simp) hx (by rw [List.getElem?_append_right (by omega)]; simp) (by rw [List.getElem?_append_right (by omega)]; simp)]
      simp [List.set_append]
  · refine ⟨E, WE, by simpa using hl, ?_⟩
    rw [stx2 (o := .val (.long w)) (o2 := .second) (by simp) (by rw [List.getElem?_append_right (by omega)]; simp) (Or.inr ⟨w, rfl, rfl⟩)]
    simp [List.set_append]
/-- the variables at a method's entry -/
def argL : List Value → List Slot
  | [] => []
  | v :: r => if v.category = 2 then .val v :: .second :: argL r else .val v :: argL r
def entryL (as : List Value) (n : Nat) : List Slot := argL as ++ List.replicate (n - (argL as).length) .unset
theorem argL_fold : ∀ (as : List Value) (acc : List Slot), as.foldl (fun acc v => if v.category = 2 then (acc.push (.val v)).push .second else acc.push (.val v)) acc.toArray = (acc ++ argL as).toArray
  | [], acc => by simp [argL]
  | v :: r, acc => by
    simp only [List.foldl_cons, argL]
    split
    · rename_i q
      rw [show ((acc.toArray.push (Slot.val v)).push Slot.second) = (acc ++ [Slot.val v, Slot.second]).toArray by simp, argL_fold r]
      simp
    · rename_i q
      rw [show (acc.toArray.push (Slot.val v)) = (acc ++ [Slot.val v]).toArray by simp, argL_fold r]
      simp
theorem argL_map (α b : Nat) : ∀ as : List Value, argL (cV α b as) = (argL as).map (cs α b)
  | [] => rfl
  | v :: r => by
    have ih := argL_map α b r
    simp only [cV, List.map_cons, argL, con_cat] at ih ⊢
    split <;> simp [ih, cs]
theorem entry_locals (α b : Nat) (as : List Value) (n : Nat) : argsToLocals (cV α b as).toArray n = cL α b (entryL as n) := by
  have h := argL_fold (cV α b as) []
  simp only [List.nil_append] at h
  have h' : (cV α b as).toArray.foldl (fun acc v => if v.category = 2 then (acc.push (Slot.val v)).push Slot.second else acc.push (Slot.val v)) #[] = (argL (cV α b as)).toArray := by
    rw [← h]; simp
  simp only [argsToLocals]
  rw [h', argL_map]
  simp [cL, entryL, List.map_append, cs]
/-! ## 3. What the heap shows -/
def scV (ty : FieldType) (s : S) (f : Nat) : Value := match ty with
  | .long => .long (gL s f)
  | _ => .int (gI s f)
def arV (ty : FieldType) (s : S) (q : Nat) : List Value := match ty with
  | .long => (gB s q).map .long
  | _ => (gA s q).map .int
def Ar (Z : State) (h : Heap) (a : Nat) (ty : FieldType) (vs : List Value) : Prop := ∃ c : Cell, Arr Z h a c ty ∧ c.slots = vs.toArray
def Rep1 (Z : State) (ci : CI) (h : Heap) (b : Nat) (o : Nat × S) : Prop :=
  Exa Z h b (cN ci) ∧ (∀ f x, (cS ci)[f]? = some x → Fld Z h b (cN ci) x.1 x.2.1 (scV x.2.2 o.2 f)) ∧
  (∀ q x, (cA ci)[q]? = some x → Fld Z h b (cN ci) x.1 x.2.1 (if q < o.1 then .ref (b + 1 + q) else .null)) ∧
  (∀ q x, (cA ci)[q]? = some x → q < o.1 → Ar Z h (b + 1 + q) x.2.2.1 (arV x.2.2.1 o.2 q))
def RepW (Z : State) (ci : CI) (α b : Nat) (w : W) (h : Heap) : Prop :=
  (∀ l, w.1 = some l → Ar Z h α .int (l.map .int) ∧ α < b) ∧ ∀ i o, w.2[i]? = some o → Rep1 Z ci h (b + (cK ci + 1) * i) o
def Frm (lo hi : Nat) (h0 h : Heap) : Prop := ∀ (x : Nat) (c : Cell), h0[x]? = some c → (x < lo ∨ hi ≤ x) → h[x]? = some c
def usedC (w : W) : Nat := (w.2.map fun o => 1 + o.1).sum
def usedS (ci : CI) (w : W) : Nat := (w.2.map fun o => cF ci + (((cA ci).take o.1).map fun x => x.2.2.2).sum).sum
/-- what the sheet says of the class -/
def Facts (Z : State) (a0 : Array Value) (ci : CI) : Prop :=
  (Jvm.Cond.instantiable (cN ci) (cF ci)).before a0 Z = true ∧ (Jvm.Cond.initialized (cN ci)).before a0 Z = true ∧
  (∀ (f : Nat) (x : String × String × FieldType), (cS ci)[f]? = some x → Laid Z a0 (cN ci) (cN ci) x.1 x.2.1 ∧ parseFieldDescriptor x.2.1 = some x.2.2) ∧
  (∀ (q : Nat) (x : String × String × FieldType × Nat), (cA ci)[q]? = some x → Laid Z a0 (cN ci) (cN ci) x.1 x.2.1 ∧ parseFieldDescriptor x.2.1 = some (.array x.2.2.1)) ∧
  ((cS ci).map (fun x => x.1) ++ (cA ci).map (fun x => x.1)).Nodup ∧ (∀ f x, (cS ci)[f]? = some x → defaultValue x.2.2 = scV x.2.2 s0 f) ∧ (cN ci ≠ "java/lang/invoke/MethodHandle" ∧ cN ci ≠ "java/lang/invoke/VarHandle")
theorem nq {a b : Nat} (h : a ≠ b) : @Ne Addr a b := h
theorem Ar.frm {Z : State} {h h' : Heap} {a : Nat} {ty : FieldType} {vs : List Value} (A : Ar Z h a ty vs) (k : ∀ c, h[a]? = some c → h'[a]? = some c) : Ar Z h' a ty vs := by
  obtain ⟨c, ⟨q1, q2⟩, q3⟩ := A; exact ⟨c, ⟨k c q1, q2⟩, q3⟩
theorem fld_frm {Z : State} {h h' : Heap} {a : Nat} {C n d : String} {v : Value} (F : Fld Z h a C n d v) (k : ∀ c, h[a]? = some c → h'[a]? = some c) : Fld Z h' a C n d v := by
  obtain ⟨cell, cf, kc, i, f, h1, r⟩ := F; exact ⟨cell, cf, kc, i, f, k _ h1, r⟩
theorem exa_frm {Z : State} {h h' : Heap} {a : Nat} {C : String} (F : Exa Z h a C) (k : ∀ c, h[a]? = some c → h'[a]? = some c) : Exa Z h' a C := by
  obtain ⟨cell, kc, h1, r⟩ := F; exact ⟨cell, kc, k _ h1, r⟩
theorem get_lt {A : Type} {l : List A} {i : Nat} {x : A} (h : l[i]? = some x) : i < l.length := (List.getElem?_eq_some_iff.mp h).1
theorem Rep1.frm {Z : State} {ci : CI} {h h' : Heap} {b : Nat} {o : Nat × S} (F : Rep1 Z ci h b o) (k : ∀ x c, b ≤ x → x < b + (cK ci + 1) → h[x]? = some c → h'[x]? = some c) : Rep1 Z ci h' b o := by
  obtain ⟨f1, f2, f3, f4⟩ := F
  refine ⟨exa_frm f1 fun c => k b c (Nat.le_refl _) (by omega), fun f x hx => fld_frm (f2 f x hx) fun c => k b c (Nat.le_refl _) (by omega), fun q x hx => fld_frm (f3 q x hx) fun c => k b c (Nat.le_refl _) (by omega), fun q x hx hq => (f4 q x hx hq).frm fun c => k _ c (by omega) ?_⟩
  have := get_lt hx
  simp only [cK]; omega
theorem RepW.ext {Z : State} {ci : CI} {α b : Nat} {w : W} {h h' : Heap} (F : RepW Z ci α b w h) (E : Ext h h') : RepW Z ci α b w h' :=
  ⟨fun l hl => ⟨((F.1 l hl).1).frm fun c q => E.2 _ _ q, (F.1 l hl).2⟩, fun i o ho => (F.2 i o ho).frm fun x c _ _ q => E.2 _ _ q⟩
theorem Frm.refl (lo hi : Nat) (h : Heap) : Frm lo hi h h := fun _ _ q _ => q
theorem Frm.trans {lo hi : Nat} {h0 h1 h2 : Heap} (A : Frm lo hi h0 h1) (B : Frm lo hi h1 h2) : Frm lo hi h0 h2 := fun x c q r => B x c (A x c q r) r
theorem Frm.wide {lo hi lo' hi' : Nat} {h0 h1 : Heap} (A : Frm lo hi h0 h1) (q1 : lo' ≤ lo) (q2 : hi ≤ hi') : Frm lo' hi' h0 h1 := fun x c q r => A x c q (by omega)
theorem Frm.ext {lo hi : Nat} {h0 h1 h2 : Heap} (A : Frm lo hi h0 h1) (E : Ext h1 h2) : Frm lo hi h0 h2 := fun x c q r => E.2 _ _ (A x c q r)
theorem Frm.wr {lo hi : Nat} {h0 h1 h2 : Heap} {a : Nat} {sl : Nat} {v : Value} (A : Frm lo hi h0 h1) (Wt : Wr h1 h2 a sl v) (q1 : lo ≤ a) (q2 : a < hi) : Frm lo hi h0 h2 := fun x c q r => by
  have q3 := A x c q r
  obtain ⟨c', e1, -, -, -, e5, -⟩ := wr_at Wt q3
  have : x ≠ a := by omega
  rw [← e5 this]; exact e1
/-! ## 4. The walk -/
def Ok (P : PI) (M : Meth) (Z : State) (a0 : Array Value) (p : Program) (R : Room) (s : State) (m : MethodId) (meth : Method) (c : Code) (b n0 : Nat) (h0 : Heap) (uC uS : Nat) : Prop :=
  (∀ d ∈ P.1, d.before a0 Z = true) ∧ Facts Z a0 P.2 ∧ p.tables.exec = Jvm.exec ∧ Z.Warmed39 s.vm ∧ s.vm.findClass (mY M).cls = some m.cls ∧ c.code = mB M ∧ c.maxLocals = mL M ∧ meth.sig.returnType = mT M ∧ meth.name = (mY M).name ∧ R = mR M ∧ n0 ≤ b ∧
  (mTop M = true → h0.size = b + uC ∧ uC = mUC M ∧ uS = mUS M) ∧ s.heap.size = h0.size
def Inv (P : PI) (M : Meth) (l : Launch) (Z : State) (p : Program) (e : Env) (R : Room) (s : State) (m : MethodId) (args : Array Value) (below : List Frame) (meth : Method) (c : Code) (α b n0 : Nat) (h0 : Heap) (uC uS : Nat) (w : W) (T : State) (locs : List Loc) (cells slots : Nat) : Prop :=
  Stand p l e R s m args below meth c T locs cells slots ∧ RepW Z P.2 α b w T.heap ∧ Frm b (b + (cK P.2 + 1) * mN M) h0 T.heap ∧ Fr n0 locs ∧ T.heap.size = h0.size + cells ∧ cells + uC = usedC w ∧ slots + uS = usedS P.2 w ∧ cells ≤ R.cells ∧ slots ≤ R.slots ∧ w.2.length ≤ mN M
def Lv (e : Env) (T : State) (m : MethodId) (r : Option Value) (fs : List Frame) : Prop := ∀ (f : JFrame) (acts : List Action), f.method = m → f.locked = none → f.entered = [] → (doReturn e (T.setTop f) acts r).1 = T.setFrames fs
/-- from here the invocation comes to its end, with this value and this world -/
def Go (P : PI) (M : Meth) (pc : Nat) (L : List Slot) (st : List Value) (w : W) (out : Option Value × W) : Prop :=
  L.length = mL M → ∀ (l : Launch) (Z : State) (a0 : Array Value) (p : Program) (e : Env) (R : Room) (s : State) (m : MethodId) (args : Array Value) (below : List Frame) (meth : Method) (c : Code) (α b n0 : Nat) (h0 : Heap) (uC uS : Nat),
    Ok P M Z a0 p R s m meth c b n0 h0 uC uS → ∀ (T : State) (locs : List Loc) (cells slots : Nat), Inv P M l Z p e R s m args below meth c α b n0 h0 uC uS w T locs cells slots →
    ∃ (T' : State) (locs' : List Loc) (cells' slots' : Nat), Inv P M l Z p e R s m args below meth c α b n0 h0 uC uS out.2 T' locs' cells' slots' ∧
      ∀ fs, Lv e T' m (out.1.map (con α b)) fs → Steps p.tables e below (T.setTop (mkF m pc (cL α b L) (cV α b st))) (T'.setFrames fs)
section Rules
variable {P : PI} {M : Meth} {pc pc' : Nat} {L L' : List Slot} {st st' : List Value} {w w' : W} {out : Option Value × W} {x y z v : Int32} {u r : Int64}
theorem go_mv (hL : L.length = mL M → L'.length = mL M)
    (H : ∀ {p : Program} {e : Env} {below : List Frame} {T target : State} {m : MethodId} {c : Code}, At T m c below → p.tables.exec = Jvm.exec → c.code = mB M → ∀ α b : Nat, Steps p.tables e below (T.setTop (mkF m pc' (cL α b L') (cV α b st'))) target → Steps p.tables e below (T.setTop (mkF m pc (cL α b L) (cV α b st))) target)
    (k : Go P M pc' L' st' w out) : Go P M pc L st w out := by
  intro hl l Z a0 p e R s m args below meth c α b n0 h0 uC uS ok T locs cells slots I
  obtain ⟨T', l', c', n', I', fin⟩ := k (hL hl) l Z a0 p e R s m args below meth c α b n0 h0 uC uS ok T locs cells slots I
  exact ⟨T', l', c', n', I', fun fs hv => H I.1.here ok.2.2.1 ok.2.2.2.2.2.1 α b (fin fs hv)⟩
theorem go_ch (H : ∀ (l : Launch) (Z : State) (a0 : Array Value) (p : Program) (e : Env) (R : Room) (s : State) (m : MethodId) (args : Array Value) (below : List Frame) (meth : Method) (c : Code) (α b n0 : Nat) (h0 : Heap) (uC uS : Nat),
      Ok P M Z a0 p R s m meth c b n0 h0 uC uS → L.length = mL M → ∀ (T : State) (locs : List Loc) (cells slots : Nat), Inv P M l Z p e R s m args below meth c α b n0 h0 uC uS w T locs cells slots →
      ∃ (T' : State) (locs' : List Loc) (cells' slots' : Nat), Inv P M l Z p e R s m args below meth c α b n0 h0 uC uS w' T' locs' cells' slots' ∧
        ∀ target, Steps p.tables e below (T'.setTop (mkF m pc' (cL α b L) (cV α b st'))) target → Steps p.tables e below (T.setTop (mkF m pc (cL α b L) (cV α b st))) target)
    (k : Go P M pc' L st' w' out) : Go P M pc L st w out := by
  intro hl l Z a0 p e R s m args below meth c α b n0 h0 uC uS ok T locs cells slots I
  obtain ⟨T1, l1, c1, n1, I1, h1⟩ := H l Z a0 p e R s m args below meth c α b n0 h0 uC uS ok hl T locs cells slots I
  obtain ⟨T', l', c', n', I', fin⟩ := k hl l Z a0 p e R s m args below meth c α b n0 h0 uC uS ok T1 l1 c1 n1 I1
  exact ⟨T', l', c', n', I', fun fs hv => h1 _ (fin fs hv)⟩
/-! ### loads, stores, constants -/
theorem go_iloadN {k : Fin 4} (d : decode (mB M) pc = .ok (.iload_n k, 1)) (hl : L[k.val]? = some (.val (.int v))) (g : Go P M (pc + 1) L (.int v :: st) w out) : Go P M pc L (st) w out :=
  go_mv id (fun h hx hc α b r => XS.iloadN (g := mkF _ pc (cL α b L) (cV α b (st))) h hx rfl (hb hc d) (cL_get hl) r) g
theorem go_iload {k : Nat} (d : decode (mB M) pc = .ok (.iload k, 2)) (hl : L[k]? = some (.val (.int v))) (g : Go P M (pc + 2) L (.int v :: st) w out) : Go P M pc L (st) w out :=
  go_mv id (fun h hx hc α b r => XS.iload (g := mkF _ pc (cL α b L) (cV α b (st))) h hx rfl (hb hc d) (cL_get hl) r) g
theorem go_lloadN {k : Fin 4} (d : decode (mB M) pc = .ok (.lload_n k, 1)) (hl : L[k.val]? = some (.val (.long u))) (g : Go P M (pc + 1) L (.long u :: st) w out) : Go P M pc L (st) w out :=
  go_mv id (fun h hx hc α b r => XT.lloadN (g := mkF _ pc (cL α b L) (cV α b (st))) h hx rfl (hb hc d) (cL_get hl) r) g
theorem go_lload {k : Nat} (d : decode (mB M) pc = .ok (.lload k, 2)) (hl : L[k]? = some (.val (.long u))) (g : Go P M (pc + 2) L (.long u :: st) w out) : Go P M pc L (st) w out :=
  go_mv id (fun h hx hc α b r => XT.lload (g := mkF _ pc (cL α b L) (cV α b (st))) h hx rfl (hb hc d) (cL_get hl) r) g
theorem go_aloadN {k : Fin 4} {a : Nat} (d : decode (mB M) pc = .ok (.aload_n k, 1)) (hl : L[k.val]? = some (.val (.ref a))) (g : Go P M (pc + 1) L (.ref a :: st) w out) : Go P M pc L (st) w out :=
  go_mv id (fun h hx hc α b r => XS.aloadN (g := mkF _ pc (cL α b L) (cV α b (st))) h hx rfl (hb hc d) (cL_get hl) (con_ref α b (.ref a)) r) g
theorem go_aload {k : Nat} {a : Nat} (d : decode (mB M) pc = .ok (.aload k, 2)) (hl : L[k]? = some (.val (.ref a))) (g : Go P M (pc + 2) L (.ref a :: st) w out) : Go P M pc L (st) w out :=
  go_mv id (fun h hx hc α b r => XS.aload (g := mkF _ pc (cL α b L) (cV α b (st))) h hx rfl (hb hc d) (cL_get hl) (con_ref α b (.ref a)) r) g
theorem go_istoreN {k : Fin 4} (d : decode (mB M) pc = .ok (.istore_n k, 1)) (hl : storeLocals L.toArray k.val (.int x) = some L'.toArray) (g : Go P M (pc + 1) L' (st) w out) : Go P M pc L (.int x :: st) w out :=
  go_mv (fun q => by have := store_size hl; simp at this; omega) (fun h hx hc α b r => XS.istoreN (g := mkF _ pc (cL α b L) (cV α b (.int x :: st))) h hx rfl (hb hc d) rfl (storeC hl) r) g
theorem go_istore {k : Nat} (d : decode (mB M) pc = .ok (.istore k, 2)) (hl : storeLocals L.toArray k (.int x) = some L'.toArray) (g : Go P M (pc + 2) L' (st) w out) : Go P M pc L (.int x :: st) w out :=
  go_mv (fun q => by have := store_size hl; simp at this; omega) (fun h hx hc α b r => XS.istore (g := mkF _ pc (cL α b L) (cV α b (.int x :: st))) h hx rfl (hb hc d) rfl (storeC hl) r) g
theorem go_lstoreN {k : Fin 4} (d : decode (mB M) pc = .ok (.lstore_n k, 1)) (hl : storeLocals L.toArray k.val (.long u) = some L'.toArray) (g : Go P M (pc + 1) L' (st) w out) : Go P M pc L (.long u :: st) w out :=
  go_mv (fun q => by have := store_size hl; simp at this; omega) (fun h hx hc α b r => XT.lstoreN (g := mkF _ pc (cL α b L) (cV α b (.long u :: st))) h hx rfl (hb hc d) rfl (storeC hl) r) g
theorem go_lstore {k : Nat} (d : decode (mB M) pc = .ok (.lstore k, 2)) (hl : storeLocals L.toArray k (.long u) = some L'.toArray) (g : Go P M (pc + 2) L' (st) w out) : Go P M pc L (.long u :: st) w out :=
  go_mv (fun q => by have := store_size hl; simp at this; omega) (fun h hx hc α b r => XT.lstore (g := mkF _ pc (cL α b L) (cV α b (.long u :: st))) h hx rfl (hb hc d) rfl (storeC hl) r) g
theorem go_astoreN {k : Fin 4} {a : Nat} (d : decode (mB M) pc = .ok (.astore_n k, 1)) (hl : storeLocals L.toArray k.val (.ref a) = some L'.toArray) (g : Go P M (pc + 1) L' (st) w out) : Go P M pc L (.ref a :: st) w out :=
  go_mv (fun q => by have := store_size hl; simp at this; omega) (fun h hx hc α b r => XS.astoreN (g := mkF _ pc (cL α b L) (cV α b (.ref a :: st))) h hx rfl (hb hc d) rfl (con_ref α b (.ref a)) (storeC hl) r) g
theorem go_astore {k : Nat} {a : Nat} (d : decode (mB M) pc = .ok (.astore k, 2)) (hl : storeLocals L.toArray k (.ref a) = some L'.toArray) (g : Go P M (pc + 2) L' (st) w out) : Go P M pc L (.ref a :: st) w out :=
  go_mv (fun q => by have := store_size hl; simp at this; omega) (fun h hx hc α b r => XS.astore (g := mkF _ pc (cL α b L) (cV α b (.ref a :: st))) h hx rfl (hb hc d) rfl (con_ref α b (.ref a)) (storeC hl) r) g
theorem go_istoreNT {k : Fin 4} {L0 L1 D : List Slot} {n : Nat} (d : decode (mB M) pc = .ok (.istore_n k, 1)) (hk : k.val = L0.length) (h1 : L1 = L0 ++ [.val (.int x)]) (W : WT D) (hl : D.length = n + 1) (g : ∀ D', WT D' → D'.length = n → Go P M (pc + 1) (L1 ++ D') st w out) : Go P M pc (L0 ++ D) (.int x :: st) w out := by
  obtain ⟨D', W', l', e⟩ := stT (L0 := L0) (v := .int x) W hl rfl
  subst h1
  exact go_istoreN d (by rw [hk]; exact e) (g D' W' l')
theorem go_istoreT {k : Nat} {L0 L1 D : List Slot} {n : Nat} (d : decode (mB M) pc = .ok (.istore k, 2)) (hk : k = L0.length) (h1 : L1 = L0 ++ [.val (.int x)]) (W : WT D) (hl : D.length = n + 1) (g : ∀ D', WT D' → D'.length = n → Go P M (pc + 2) (L1 ++ D') st w out) : Go P M pc (L0 ++ D) (.int x :: st) w out := by
  obtain ⟨D', W', l', e⟩ := stT (L0 := L0) (v := .int x) W hl rfl
  subst h1
  exact go_istore d (by rw [hk]; exact e) (g D' W' l')
theorem go_astoreNT {k : Fin 4} {L0 L1 D : List Slot} {n : Nat} {a : Nat} (d : decode (mB M) pc = .ok (.astore_n k, 1)) (hk : k.val = L0.length) (h1 : L1 = L0 ++ [.val (.ref a)]) (W : WT D) (hl : D.length = n + 1) (g : ∀ D', WT D' → D'.length = n → Go P M (pc + 1) (L1 ++ D') st w out) : Go P M pc (L0 ++ D) (.ref a :: st) w out := by
  obtain ⟨D', W', l', e⟩ := stT (L0 := L0) (v := .ref a) W hl rfl
  subst h1
  exact go_astoreN d (by rw [hk]; exact e) (g D' W' l')
theorem go_astoreT {k : Nat} {L0 L1 D : List Slot} {n : Nat} {a : Nat} (d : decode (mB M) pc = .ok (.astore k, 2)) (hk : k = L0.length) (h1 : L1 = L0 ++ [.val (.ref a)]) (W : WT D) (hl : D.length = n + 1) (g : ∀ D', WT D' → D'.length = n → Go P M (pc + 2) (L1 ++ D') st w out) : Go P M pc (L0 ++ D) (.ref a :: st) w out := by
  obtain ⟨D', W', l', e⟩ := stT (L0 := L0) (v := .ref a) W hl rfl
  subst h1
  exact go_astore d (by rw [hk]; exact e) (g D' W' l')
theorem go_lstoreNT {k : Fin 4} {L0 L1 D : List Slot} {n : Nat} (d : decode (mB M) pc = .ok (.lstore_n k, 1)) (hk : k.val = L0.length) (h1 : L1 = L0 ++ [.val (.long u), .second]) (W : WT D) (hl : D.length = n + 2) (g : ∀ D', WT D' → D'.length = n → Go P M (pc + 1) (L1 ++ D') st w out) : Go P M pc (L0 ++ D) (.long u :: st) w out := by
  obtain ⟨D', W', l', e⟩ := stT2 (L0 := L0) (u := u) W hl
  subst h1
  exact go_lstoreN d (by rw [hk]; exact e) (g D' W' l')
theorem go_lstoreT {k : Nat} {L0 L1 D : List Slot} {n : Nat} (d : decode (mB M) pc = .ok (.lstore k, 2)) (hk : k = L0.length) (h1 : L1 = L0 ++ [.val (.long u), .second]) (W : WT D) (hl : D.length = n + 2) (g : ∀ D', WT D' → D'.length = n → Go P M (pc + 2) (L1 ++ D') st w out) : Go P M pc (L0 ++ D) (.long u :: st) w out := by
  obtain ⟨D', W', l', e⟩ := stT2 (L0 := L0) (u := u) W hl
  subst h1
  exact go_lstore d (by rw [hk]; exact e) (g D' W' l')
theorem go_iconst {i : Int} (d : decode (mB M) pc = .ok (.iconst i, 1)) (hv : v = Int32.ofInt i) (g : Go P M (pc + 1) L (.int v :: st) w out) : Go P M pc L (st) w out :=
  go_mv id (fun h hx hc α b r => XS.iconst (g := mkF _ pc (cL α b L) (cV α b (st))) h hx rfl (hb hc d) (hv ▸ r)) g
theorem go_bipush {i : Int} (d : decode (mB M) pc = .ok (.bipush i, 2)) (hv : v = (Int8.ofInt i).toInt32) (g : Go P M (pc + 2) L (.int v :: st) w out) : Go P M pc L (st) w out :=
  go_mv id (fun h hx hc α b r => XS.bipush (g := mkF _ pc (cL α b L) (cV α b (st))) h hx rfl (hb hc d) (hv ▸ r)) g
theorem go_sipush {i : Int} (d : decode (mB M) pc = .ok (.sipush i, 3)) (hv : v = (Int16.ofInt i).toInt32) (g : Go P M (pc + 3) L (.int v :: st) w out) : Go P M pc L (st) w out :=
  go_mv id (fun h hx hc α b r => XS.sipush (g := mkF _ pc (cL α b L) (cV α b (st))) h hx rfl (hb hc d) (hv ▸ r)) g
theorem go_lconst {i : Fin 2} (d : decode (mB M) pc = .ok (.lconst i, 1)) (hv : u = Int64.ofNat i) (g : Go P M (pc + 1) L (.long u :: st) w out) : Go P M pc L (st) w out :=
  go_mv id (fun h hx hc α b r => XT.lconst (g := mkF _ pc (cL α b L) (cV α b (st))) h hx rfl (hb hc d) (hv ▸ r)) g
theorem go_dup  (d : decode (mB M) pc = .ok (.dup, 1))  (g : Go P M (pc + 1) L (.int x :: .int x :: st) w out) : Go P M pc L (.int x :: st) w out :=
  go_mv id (fun h hx hc α b r => XS.dup (g := mkF _ pc (cL α b L) (cV α b (.int x :: st))) h hx rfl (hb hc d) rfl rfl r) g
theorem go_dupR {a : Nat} (d : decode (mB M) pc = .ok (.dup, 1))  (g : Go P M (pc + 1) L (.ref a :: .ref a :: st) w out) : Go P M pc L (.ref a :: st) w out :=
  go_mv id (fun h hx hc α b r => XS.dup (g := mkF _ pc (cL α b L) (cV α b (.ref a :: st))) h hx rfl (hb hc d) rfl (con_cat α b (.ref a)) r) g
theorem go_dup2 {a : Nat} (d : decode (mB M) pc = .ok (.dup2, 1))  (g : Go P M (pc + 1) L (.int x :: .ref a :: .int x :: .ref a :: st) w out) : Go P M pc L (.int x :: .ref a :: st) w out :=
  go_mv id (fun h hx hc α b r => XT.dup2 (g := mkF _ pc (cL α b L) (cV α b (.int x :: .ref a :: st))) h hx rfl (hb hc d) rfl rfl (con_cat α b (.ref a)) r) g
theorem go_dup2I  (d : decode (mB M) pc = .ok (.dup2, 1))  (g : Go P M (pc + 1) L (.int x :: .int y :: .int x :: .int y :: st) w out) : Go P M pc L (.int x :: .int y :: st) w out :=
  go_mv id (fun h hx hc α b r => XT.dup2 (g := mkF _ pc (cL α b L) (cV α b (.int x :: .int y :: st))) h hx rfl (hb hc d) rfl rfl rfl r) g
theorem go_dup2L  (d : decode (mB M) pc = .ok (.dup2, 1))  (g : Go P M (pc + 1) L (.long u :: .long u :: st) w out) : Go P M pc L (.long u :: st) w out :=
  go_mv id (fun h hx hc α b r => XT.dup2L (g := mkF _ pc (cL α b L) (cV α b (.long u :: st))) h hx rfl (hb hc d) rfl r) g
theorem go_pop  (d : decode (mB M) pc = .ok (.pop, 1))  (g : Go P M (pc + 1) L (st) w out) : Go P M pc L (.int x :: st) w out :=
  go_mv id (fun h hx hc α b r => XT.pop (g := mkF _ pc (cL α b L) (cV α b (.int x :: st))) h hx rfl (hb hc d) rfl rfl r) g
theorem go_iadd  (d : decode (mB M) pc = .ok (.iadd, 1))  (g : Go P M (pc + 1) L (.int (x + y) :: st) w out) : Go P M pc L (.int y :: .int x :: st) w out :=
  go_mv id (fun h hx hc α b r => XS.iadd (g := mkF _ pc (cL α b L) (cV α b (.int y :: .int x :: st))) h hx rfl (hb hc d) rfl r) g
theorem go_isub  (d : decode (mB M) pc = .ok (.isub, 1))  (g : Go P M (pc + 1) L (.int (x - y) :: st) w out) : Go P M pc L (.int y :: .int x :: st) w out :=
  go_mv id (fun h hx hc α b r => XS.isub (g := mkF _ pc (cL α b L) (cV α b (.int y :: .int x :: st))) h hx rfl (hb hc d) rfl r) g
theorem go_imul  (d : decode (mB M) pc = .ok (.imul, 1))  (g : Go P M (pc + 1) L (.int (x * y) :: st) w out) : Go P M pc L (.int y :: .int x :: st) w out :=
  go_mv id (fun h hx hc α b r => XS.imul (g := mkF _ pc (cL α b L) (cV α b (.int y :: .int x :: st))) h hx rfl (hb hc d) rfl r) g
theorem go_iand  (d : decode (mB M) pc = .ok (.iand, 1))  (g : Go P M (pc + 1) L (.int (x &&& y) :: st) w out) : Go P M pc L (.int y :: .int x :: st) w out :=
  go_mv id (fun h hx hc α b r => XS.iand (g := mkF _ pc (cL α b L) (cV α b (.int y :: .int x :: st))) h hx rfl (hb hc d) rfl r) g
theorem go_ior  (d : decode (mB M) pc = .ok (.ior, 1))  (g : Go P M (pc + 1) L (.int (x ||| y) :: st) w out) : Go P M pc L (.int y :: .int x :: st) w out :=
  go_mv id (fun h hx hc α b r => XT.ior (g := mkF _ pc (cL α b L) (cV α b (.int y :: .int x :: st))) h hx rfl (hb hc d) rfl r) g
theorem go_ixor  (d : decode (mB M) pc = .ok (.ixor, 1))  (g : Go P M (pc + 1) L (.int (x ^^^ y) :: st) w out) : Go P M pc L (.int y :: .int x :: st) w out :=
  go_mv id (fun h hx hc α b r => XT.ixor (g := mkF _ pc (cL α b L) (cV α b (.int y :: .int x :: st))) h hx rfl (hb hc d) rfl r) g
theorem go_ishl  (d : decode (mB M) pc = .ok (.ishl, 1))  (g : Go P M (pc + 1) L (.int (x <<< (y &&& 31)) :: st) w out) : Go P M pc L (.int y :: .int x :: st) w out :=
  go_mv id (fun h hx hc α b r => XT.ishl (g := mkF _ pc (cL α b L) (cV α b (.int y :: .int x :: st))) h hx rfl (hb hc d) rfl r) g
theorem go_ishr  (d : decode (mB M) pc = .ok (.ishr, 1))  (g : Go P M (pc + 1) L (.int (x >>> (y &&& 31)) :: st) w out) : Go P M pc L (.int y :: .int x :: st) w out :=
  go_mv id (fun h hx hc α b r => XT.ishr (g := mkF _ pc (cL α b L) (cV α b (.int y :: .int x :: st))) h hx rfl (hb hc d) rfl r) g
theorem go_iushr  (d : decode (mB M) pc = .ok (.iushr, 1))  (g : Go P M (pc + 1) L (.int (XT.ushr x y) :: st) w out) : Go P M pc L (.int y :: .int x :: st) w out :=
  go_mv id (fun h hx hc α b r => XT.iushr (g := mkF _ pc (cL α b L) (cV α b (.int y :: .int x :: st))) h hx rfl (hb hc d) rfl r) g
theorem go_idiv  (d : decode (mB M) pc = .ok (.idiv, 1)) (hy : y ≠ 0) (g : Go P M (pc + 1) L (.int (x / y) :: st) w out) : Go P M pc L (.int y :: .int x :: st) w out :=
  go_mv id (fun h hx hc α b r => XS.idiv (g := mkF _ pc (cL α b L) (cV α b (.int y :: .int x :: st))) h hx rfl (hb hc d) rfl hy r) g
theorem go_irem  (d : decode (mB M) pc = .ok (.irem, 1)) (hy : y ≠ 0) (g : Go P M (pc + 1) L (.int (x % y) :: st) w out) : Go P M pc L (.int y :: .int x :: st) w out :=
  go_mv id (fun h hx hc α b r => XS.irem (g := mkF _ pc (cL α b L) (cV α b (.int y :: .int x :: st))) h hx rfl (hb hc d) rfl hy (by rw [irem_eq_mod x y]; exact r)) g
theorem go_ineg  (d : decode (mB M) pc = .ok (.ineg, 1))  (g : Go P M (pc + 1) L (.int (-x) :: st) w out) : Go P M pc L (.int x :: st) w out :=
  go_mv id (fun h hx hc α b r => XS.ineg (g := mkF _ pc (cL α b L) (cV α b (.int x :: st))) h hx rfl (hb hc d) rfl r) g
theorem go_ladd  (d : decode (mB M) pc = .ok (.ladd, 1))  (g : Go P M (pc + 1) L (.long (u + r) :: st) w out) : Go P M pc L (.long r :: .long u :: st) w out :=
  go_mv id (fun h hx hc α b k => XT.ladd (g := mkF _ pc (cL α b L) (cV α b (.long r :: .long u :: st))) h hx rfl (hb hc d) rfl k) g
theorem go_lsub  (d : decode (mB M) pc = .ok (.lsub, 1))  (g : Go P M (pc + 1) L (.long (u - r) :: st) w out) : Go P M pc L (.long r :: .long u :: st) w out :=
  go_mv id (fun h hx hc α b k => XT.lsub (g := mkF _ pc (cL α b L) (cV α b (.long r :: .long u :: st))) h hx rfl (hb hc d) rfl k) g
theorem go_lmul  (d : decode (mB M) pc = .ok (.lmul, 1))  (g : Go P M (pc + 1) L (.long (u * r) :: st) w out) : Go P M pc L (.long r :: .long u :: st) w out :=
  go_mv id (fun h hx hc α b k => XT.lmul (g := mkF _ pc (cL α b L) (cV α b (.long r :: .long u :: st))) h hx rfl (hb hc d) rfl k) g
theorem go_land  (d : decode (mB M) pc = .ok (.land, 1))  (g : Go P M (pc + 1) L (.long (u &&& r) :: st) w out) : Go P M pc L (.long r :: .long u :: st) w out :=
  go_mv id (fun h hx hc α b k => XT.land (g := mkF _ pc (cL α b L) (cV α b (.long r :: .long u :: st))) h hx rfl (hb hc d) rfl k) g
theorem go_lor  (d : decode (mB M) pc = .ok (.lor, 1))  (g : Go P M (pc + 1) L (.long (u ||| r) :: st) w out) : Go P M pc L (.long r :: .long u :: st) w out :=
  go_mv id (fun h hx hc α b k => XT.lor (g := mkF _ pc (cL α b L) (cV α b (.long r :: .long u :: st))) h hx rfl (hb hc d) rfl k) g
theorem go_lxor  (d : decode (mB M) pc = .ok (.lxor, 1))  (g : Go P M (pc + 1) L (.long (u ^^^ r) :: st) w out) : Go P M pc L (.long r :: .long u :: st) w out :=
  go_mv id (fun h hx hc α b k => XT.lxor (g := mkF _ pc (cL α b L) (cV α b (.long r :: .long u :: st))) h hx rfl (hb hc d) rfl k) g
theorem go_lshl  (d : decode (mB M) pc = .ok (.lshl, 1))  (g : Go P M (pc + 1) L (.long (u <<< (y.toInt64 &&& 63)) :: st) w out) : Go P M pc L (.int y :: .long u :: st) w out :=
  go_mv id (fun h hx hc α b r => XT.lshl (g := mkF _ pc (cL α b L) (cV α b (.int y :: .long u :: st))) h hx rfl (hb hc d) rfl r) g
theorem go_lshr  (d : decode (mB M) pc = .ok (.lshr, 1))  (g : Go P M (pc + 1) L (.long (u >>> (y.toInt64 &&& 63)) :: st) w out) : Go P M pc L (.int y :: .long u :: st) w out :=
  go_mv id (fun h hx hc α b r => XT.lshr (g := mkF _ pc (cL α b L) (cV α b (.int y :: .long u :: st))) h hx rfl (hb hc d) rfl r) g
theorem go_lushr  (d : decode (mB M) pc = .ok (.lushr, 1))  (g : Go P M (pc + 1) L (.long (XT.ushrL u y) :: st) w out) : Go P M pc L (.int y :: .long u :: st) w out :=
  go_mv id (fun h hx hc α b r => XT.lushr (g := mkF _ pc (cL α b L) (cV α b (.int y :: .long u :: st))) h hx rfl (hb hc d) rfl r) g
theorem go_lcmp  (d : decode (mB M) pc = .ok (.lcmp, 1))  (g : Go P M (pc + 1) L (.int (XT.cmpL u r) :: st) w out) : Go P M pc L (.long r :: .long u :: st) w out :=
  go_mv id (fun h hx hc α b k => XT.lcmp (g := mkF _ pc (cL α b L) (cV α b (.long r :: .long u :: st))) h hx rfl (hb hc d) rfl k) g
theorem go_i2l  (d : decode (mB M) pc = .ok (.i2l, 1))  (g : Go P M (pc + 1) L (.long x.toInt64 :: st) w out) : Go P M pc L (.int x :: st) w out :=
  go_mv id (fun h hx hc α b r => XT.i2l (g := mkF _ pc (cL α b L) (cV α b (.int x :: st))) h hx rfl (hb hc d) rfl r) g
theorem go_l2i  (d : decode (mB M) pc = .ok (.l2i, 1))  (g : Go P M (pc + 1) L (.int u.toInt32 :: st) w out) : Go P M pc L (.long u :: st) w out :=
  go_mv id (fun h hx hc α b r => XT.l2i (g := mkF _ pc (cL α b L) (cV α b (.long u :: st))) h hx rfl (hb hc d) rfl r) g
theorem go_i2b  (d : decode (mB M) pc = .ok (.i2b, 1))  (g : Go P M (pc + 1) L (.int x.toInt8.toInt32 :: st) w out) : Go P M pc L (.int x :: st) w out :=
  go_mv id (fun h hx hc α b r => XT.i2b (g := mkF _ pc (cL α b L) (cV α b (.int x :: st))) h hx rfl (hb hc d) rfl r) g
theorem go_iinc {k : Nat} {i : Int} (d : decode (mB M) pc = .ok (.iinc k i, 3)) (h1 : L[k]? = some (.val (.int x))) (hv : v = Int32.ofInt i) (hl : storeLocals L.toArray k (.int (x + v)) = some L'.toArray) (g : Go P M (pc + 3) L' (st) w out) : Go P M pc L (st) w out :=
  by subst hv; exact go_mv (fun q => by have := store_size hl; simp at this; omega) (fun h hx hc α b r => XS.iinc (g := mkF _ pc (cL α b L) (cV α b (st))) h hx rfl (hb hc d) (cL_get h1) (storeC hl) r) g
theorem go_goto {o : Int} (d : decode (mB M) pc = .ok (.goto o, 3)) (hp : 0 ≤ (pc : Int) + o ∧ ((pc : Int) + o).toNat = pc') (g : Go P M pc' L (st) w out) : Go P M pc L (st) w out :=
  go_mv id (fun h hx hc α b r => XS.goto (g := mkF _ pc (cL α b L) (cV α b (st))) h hx rfl rfl (hb hc d) hp.1 hp.2 r) g
theorem go_ifY {cd : ClassFile.Cond} {o : Int} (d : decode (mB M) pc = .ok (.ifCond cd o, 3)) (hq : ifCond.holds cd x = true) (hp : 0 ≤ (pc : Int) + o ∧ ((pc : Int) + o).toNat = pc') (g : Go P M pc' L (st) w out) : Go P M pc L (.int x :: st) w out :=
  go_mv id (fun h hx hc α b r => XS.ifYes (g := mkF _ pc (cL α b L) (cV α b (.int x :: st))) h hx rfl rfl (hb hc d) rfl hq hp.1 hp.2 r) g
theorem go_ifN {cd : ClassFile.Cond} {o : Int} (d : decode (mB M) pc = .ok (.ifCond cd o, 3)) (hq : ifCond.holds cd x = false) (g : Go P M (pc + 3) L (st) w out) : Go P M pc L (.int x :: st) w out :=
  go_mv id (fun h hx hc α b r => XS.ifNo (g := mkF _ pc (cL α b L) (cV α b (.int x :: st))) h hx rfl (hb hc d) rfl hq r) g
theorem go_icY {cd : ClassFile.Cond} {o : Int} (d : decode (mB M) pc = .ok (.if_icmp cd o, 3)) (hq : if_icmp.holds cd x y = true) (hp : 0 ≤ (pc : Int) + o ∧ ((pc : Int) + o).toNat = pc') (g : Go P M pc' L (st) w out) : Go P M pc L (.int y :: .int x :: st) w out :=
  go_mv id (fun h hx hc α b r => XS.icmpYes (g := mkF _ pc (cL α b L) (cV α b (.int y :: .int x :: st))) h hx rfl rfl (hb hc d) rfl hq hp.1 hp.2 r) g
theorem go_icN {cd : ClassFile.Cond} {o : Int} (d : decode (mB M) pc = .ok (.if_icmp cd o, 3)) (hq : if_icmp.holds cd x y = false) (g : Go P M (pc + 3) L (st) w out) : Go P M pc L (.int y :: .int x :: st) w out :=
  go_mv id (fun h hx hc α b r => XS.icmpNo (g := mkF _ pc (cL α b L) (cV α b (.int y :: .int x :: st))) h hx rfl (hb hc d) rfl hq r) g
theorem go_nonnull {o : Int} (d : decode (mB M) pc = .ok (.ifnonnull o, 3)) (hp : 0 ≤ (pc : Int) + o ∧ ((pc : Int) + o).toNat = pc') (g : Go P M pc' L st w out) : Go P M pc L (.ref 0 :: st) w out :=
  go_mv id (fun h hx hc α b r => XT.ifnonnullYes (g := mkF _ pc (cL α b L) (cV α b (.ref 0 :: st))) (b := α) h hx rfl rfl (hb hc d) rfl hp.1 hp.2 r) g
theorem go_tswIn {dflt low high : Int} {offs : Array Int} {len : Nat} {o : Int} (d : decode (mB M) pc = .ok (.tableswitch dflt low high offs, len)) (hin : ¬ (x.toInt < low ∨ x.toInt > high)) (hoff : offs[(x.toInt - low).toNat]? = some o) (hp : 0 ≤ (pc : Int) + o ∧ ((pc : Int) + o).toNat = pc') (g : Go P M pc' L st w out) : Go P M pc L (.int x :: st) w out :=
  go_mv id (fun h hx hc α b r => XS.tswIn (g := mkF _ pc (cL α b L) (cV α b (.int x :: st))) h hx rfl rfl (hb hc d) rfl hin hoff hp.1 hp.2 r) g
theorem go_tswOut {dflt low high : Int} {offs : Array Int} {len : Nat} (d : decode (mB M) pc = .ok (.tableswitch dflt low high offs, len)) (hout : x.toInt < low ∨ x.toInt > high) (hp : 0 ≤ (pc : Int) + dflt ∧ ((pc : Int) + dflt).toNat = pc') (g : Go P M pc' L st w out) : Go P M pc L (.int x :: st) w out :=
  go_mv id (fun h hx hc α b r => XS.tswOut (g := mkF _ pc (cL α b L) (cV α b (.int x :: st))) h hx rfl rfl (hb hc d) rfl hout hp.1 hp.2 r) g
/-! ### constants of the pool -/
theorem go_ldc {k : Nat} (d : decode (mB M) pc = .ok (.ldc k, 2)) (hk : Jvm.Cond.constant (mY M).cls k v ∈ P.1) (g : Go P M (pc + 2) L (.int v :: st) w out) : Go P M pc L st w out :=
  go_ch (fun l Z a0 p e R s m args below meth c α b n0 h0 uC uS ok hl T locs cells slots I => ⟨T, locs, cells, slots, I, fun target r => Stand.ldcI (g := mkF m pc (cL α b L) (cV α b st)) I.1 ok.2.2.1 ok.2.2.2.2.1 (mvT ok.2.2.2.1 (ok.1 _ hk)) rfl (hb ok.2.2.2.2.2.1 d) r⟩) g
theorem go_ldcW {k : Nat} (d : decode (mB M) pc = .ok (.ldc_w k, 3)) (hk : Jvm.Cond.constant (mY M).cls k v ∈ P.1) (g : Go P M (pc + 3) L (.int v :: st) w out) : Go P M pc L st w out :=
  go_ch (fun l Z a0 p e R s m args below meth c α b n0 h0 uC uS ok hl T locs cells slots I => ⟨T, locs, cells, slots, I, fun target r => Stand.ldcWI (g := mkF m pc (cL α b L) (cV α b st)) I.1 ok.2.2.1 ok.2.2.2.2.1 (mvT ok.2.2.2.1 (ok.1 _ hk)) rfl (hb ok.2.2.2.2.2.1 d) r⟩) g
theorem go_ldc2 {k : Nat} (d : decode (mB M) pc = .ok (.ldc2_w k, 3)) (hk : Jvm.Cond.constantLong (mY M).cls k u ∈ P.1) (g : Go P M (pc + 3) L (.long u :: st) w out) : Go P M pc L st w out :=
  go_ch (fun l Z a0 p e R s m args below meth c α b n0 h0 uC uS ok hl T locs cells slots I => ⟨T, locs, cells, slots, I, fun target r => Stand.ldc2J (g := mkF m pc (cL α b L) (cV α b st)) I.1 ok.2.2.1 ok.2.2.2.2.1 (mvT ok.2.2.2.1 (ok.1 _ hk)) rfl (hb ok.2.2.2.2.2.1 d) r⟩) g
/-! ### returns -/
theorem go_iret (hT : mT M = some .int) (d : decode (mB M) pc = .ok (.ireturn, 1)) : Go P M pc L (.int x :: st) w (some (.int x), w) := by
  intro hl l Z a0 p e R s m args below meth c α b n0 h0 uC uS ok T locs cells slots I
  exact ⟨T, locs, cells, slots, I, fun fs hv => retOut I.1 ok.2.2.1 (t := .int) (ok.2.2.2.2.2.2.2.1.trans hT) rfl (Or.inl ⟨rfl, Or.inl rfl, x, rfl⟩) (hb ok.2.2.2.2.2.1 d) hv⟩
theorem go_zret (hT : mT M = some .boolean) (d : decode (mB M) pc = .ok (.ireturn, 1)) (hz : v = nar .boolean x) : Go P M pc L (.int x :: st) w (some (.int v), w) := by
  intro hl l Z a0 p e R s m args below meth c α b n0 h0 uC uS ok T locs cells slots I
  subst hz
  exact ⟨T, locs, cells, slots, I, fun fs hv => retN I.1 ok.2.2.1 (t := .boolean) (ok.2.2.2.2.2.2.2.1.trans hT) (Or.inl rfl) (hb ok.2.2.2.2.2.1 d) hv⟩
theorem go_lret (hT : mT M = some .long) (d : decode (mB M) pc = .ok (.lreturn, 1)) : Go P M pc L (.long u :: st) w (some (.long u), w) := by
  intro hl l Z a0 p e R s m args below meth c α b n0 h0 uC uS ok T locs cells slots I
  exact ⟨T, locs, cells, slots, I, fun fs hv => retOut I.1 ok.2.2.1 (t := .long) (ok.2.2.2.2.2.2.2.1.trans hT) rfl (Or.inr (Or.inl ⟨rfl, rfl, u, rfl⟩)) (hb ok.2.2.2.2.2.1 d) hv⟩
theorem go_ret (hT : mT M = none) (d : decode (mB M) pc = .ok (.return_, 1)) : Go P M pc L [] w (none, w) := by
  intro hl l Z a0 p e R s m args below meth c α b n0 h0 uC uS ok T locs cells slots I
  exact ⟨T, locs, cells, slots, I, fun fs hv => I.1.returnOut ok.2.2.1 (ok.2.2.2.2.2.2.2.1.trans hT) (hb ok.2.2.2.2.2.1 d) hv⟩
/-! ### fields -/
variable {o o' : Nat × S} {s : S} {k n : Nat}
theorem rep_one {Z : State} {ci : CI} {α b : Nat} {h : Heap} (F : RepW Z ci α b (none, [o]) h) : Rep1 Z ci h b o := by
  have := F.2 0 o rfl
  simpa using this
theorem rep_mk {Z : State} {ci : CI} {α b : Nat} {h : Heap} (F : Rep1 Z ci h b o) : RepW Z ci α b (none, [o]) h :=
  ⟨fun l hl => (nomatch hl), fun i o1 ho => by
    cases i with
    | zero => cases ho; simpa using F
    | succ i => simp at ho⟩
/-- the entry idx names the scalar field number f; of type ty -/
def FldS (P : PI) (idx f : Nat) (ty : FieldType) : Prop := ∃ nm ds, (cS P.2)[f]? = some (nm, ds, ty) ∧ Jvm.Cond.fieldLink (cN P.2) idx (cN P.2) nm ds ∈ P.1
def FldA (P : PI) (idx q : Nat) (ty : FieldType) : Prop := ∃ nm ds cap, (cA P.2)[q]? = some (nm, ds, ty, cap) ∧ Jvm.Cond.fieldLink (cN P.2) idx (cN P.2) nm ds ∈ P.1
theorem go_getV {idx f : Nat} {ty : FieldType} (F : FldS P idx f ty) (hM : (mY M).cls = cN P.2) (d : decode (mB M) pc = .ok (.getfield idx, 3)) {vv : Value} (hv : vv = scV ty s f) (hr : ∀ α b, con α b vv = vv) (g : Go P M (pc + 3) L (vv :: st) (none, [(k, s)]) out) : Go P M pc L (.ref 1 :: st) (none, [(k, s)]) out :=
  go_ch (fun l Z a0 p e R s1 m args below meth c α b n0 h0 uC uS ok hl T locs cells slots I => by
    obtain ⟨nm, ds, f1, f2⟩ := F
    obtain ⟨hw, fa, hx, hZ, hown, hc, hml, hret, hnm, hR, hn0, htop, hsz⟩ := ok
    obtain ⟨X, Rp, Fm, Nl, hs, u1, u2, c1, c2, hN⟩ := I
    have Fd := (rep_one Rp).2.1 f _ f1
    rw [hM] at hown
    obtain ⟨T', X', e', stp⟩ := getF X hx hZ hown (host := "") (Or.inl (hw _ f2)) Via.refl rfl Fd (g := mkF m pc (cL α b L) (cV α b (.ref 1 :: st))) rfl rfl (hb hc d)
    refine ⟨T', locs, cells, slots, ⟨X', by rw [e']; exact Rp, by rw [e']; exact Fm, Nl, by rw [e']; exact hs, u1, u2, c1, c2, hN⟩, fun target r => stp target ?_⟩
    rw [show cV α b (vv :: st) = con α b vv :: cV α b st from rfl, hr, hv] at r
    exact r) g
theorem go_getI {idx f : Nat} (F : FldS P idx f .int) (hM : (mY M).cls = cN P.2) (d : decode (mB M) pc = .ok (.getfield idx, 3)) (g : Go P M (pc + 3) L (.int (gI s f) :: st) (none, [(k, s)]) out) : Go P M pc L (.ref 1 :: st) (none, [(k, s)]) out :=
  go_getV F hM d rfl (fun _ _ => rfl) g
theorem go_getZ {idx f : Nat} (F : FldS P idx f .boolean) (hM : (mY M).cls = cN P.2) (d : decode (mB M) pc = .ok (.getfield idx, 3)) (g : Go P M (pc + 3) L (.int (gI s f) :: st) (none, [(k, s)]) out) : Go P M pc L (.ref 1 :: st) (none, [(k, s)]) out :=
  go_getV F hM d rfl (fun _ _ => rfl) g
theorem go_getJ {idx f : Nat} (F : FldS P idx f .long) (hM : (mY M).cls = cN P.2) (d : decode (mB M) pc = .ok (.getfield idx, 3)) (g : Go P M (pc + 3) L (.long (gL s f) :: st) (none, [(k, s)]) out) : Go P M pc L (.ref 1 :: st) (none, [(k, s)]) out :=
  go_getV F hM d rfl (fun _ _ => rfl) g
theorem go_getA {idx q : Nat} {ty : FieldType} (F : FldA P idx q ty) (hM : (mY M).cls = cN P.2) (d : decode (mB M) pc = .ok (.getfield idx, 3)) (hq : Nat.blt q k = true) (g : Go P M (pc + 3) L (.ref (q + 2) :: st) (none, [(k, s)]) out) : Go P M pc L (.ref 1 :: st) (none, [(k, s)]) out :=
  go_ch (fun l Z a0 p e R s1 m args below meth c α b n0 h0 uC uS ok hl T locs cells slots I => by
    obtain ⟨nm, ds, cap, f1, f2⟩ := F
    obtain ⟨hw, fa, hx, hZ, hown, hc, hml, hret, hnm, hR, hn0, htop, hsz⟩ := ok
    obtain ⟨X, Rp, Fm, Nl, hs, u1, u2, c1, c2, hN⟩ := I
    have Fd := (rep_one Rp).2.2.1 q _ f1
    rw [if_pos (show q < (k, s).1 by simpa [Nat.blt_eq] using hq)] at Fd
    rw [hM] at hown
    obtain ⟨T', X', e', stp⟩ := getF X hx hZ hown (host := "") (Or.inl (hw _ f2)) Via.refl rfl Fd (g := mkF m pc (cL α b L) (cV α b (.ref 1 :: st))) rfl rfl (hb hc d)
    refine ⟨T', locs, cells, slots, ⟨X', by rw [e']; exact Rp, by rw [e']; exact Fm, Nl, by rw [e']; exact hs, u1, u2, c1, c2, hN⟩, fun target r => stp target ?_⟩
    rw [show cV α b (.ref (q + 2) :: st) = .ref (b + (q + 1)) :: cV α b st from rfl] at r
    rw [show b + 1 + q = b + (q + 1) by omega]
    exact r) g
/-- another scalar of the object takes its value -/
theorem rep_put {Z : State} {a0 : Array Value} {ci : CI} {h h' : Heap} {b : Nat} {s s' : S} {k f : Nat} {nm ds : String} {ty : FieldType} {vv : Value} (fa : Facts Z a0 ci) (F : Rep1 Z ci h b (k, s)) (hf : (cS ci)[f]? = some (nm, ds, ty))
    (Wt : Wr h h' b (Jvm.RoadKit.slotOf Z (cN ci) nm ds) vv) (hv : vv = scV ty s' f) (ho : ∀ f' x, (cS ci)[f']? = some x → f' ≠ f → scV x.2.2 s' f' = scV x.2.2 s f') (ha : gA s' = gA s) (hbb : gB s' = gB s) : Rep1 Z ci h' b (k, s') := by
  obtain ⟨f1, f2, f3, f4⟩ := F
  obtain ⟨-, -, g1, g2, g3, -⟩ := fa
  have lt := get_lt hf
  refine ⟨f1.wr Wt, fun f' x hx => ?_, fun q x hx => ?_, fun q x hx hq => ?_⟩
  · by_cases e : f' = f
    · subst e
      cases hf.symm.trans hx
      show Fld Z h' b (cN ci) nm ds (scV ty s' f')
      rw [← hv]; exact (f2 f' _ hf).same Wt
    · have lt' := get_lt hx
      show Fld Z h' b (cN ci) x.1 x.2.1 (scV x.2.2 s' f')
      rw [ho f' x hx e]
      refine (f2 f' x hx).other Wt (Or.inr ?_)
      refine slot_ne (g1 f' x hx).1 (g1 f _ hf).1 ?_ (g1 f' x hx).2 (g1 f _ hf).2
      intro en
      have n1 : ((cS ci).map (fun x => x.1) ++ (cA ci).map (fun x => x.1))[f']? = some x.1 := by rw [List.getElem?_append_left (by simpa using lt')]; simp [hx]
      have n2 : ((cS ci).map (fun x => x.1) ++ (cA ci).map (fun x => x.1))[f]? = some nm := by rw [List.getElem?_append_left (by simpa using lt)]; simp [hf]
      rw [en] at n1
      obtain ⟨i1, j1⟩ := List.getElem?_eq_some_iff.mp n1
      obtain ⟨i2, j2⟩ := List.getElem?_eq_some_iff.mp n2
      exact e ((List.getElem_inj g3).mp (j1.trans j2.symm))
  · refine (f3 q x hx).other Wt (Or.inr ?_)
    have lt' := get_lt hx
    refine slot_ne (g2 q x hx).1 (g1 f _ hf).1 ?_ (g2 q x hx).2 (g1 f _ hf).2
    intro en
    have n1 : ((cS ci).map (fun x => x.1) ++ (cA ci).map (fun x => x.1))[(cS ci).length + q]? = some x.1 := by rw [List.getElem?_append_right (by simp)]; simp [hx]
    have n2 : ((cS ci).map (fun x => x.1) ++ (cA ci).map (fun x => x.1))[f]? = some nm := by rw [List.getElem?_append_left (by simpa using lt)]; simp [hf]
    rw [en] at n1
    obtain ⟨i1, j1⟩ := List.getElem?_eq_some_iff.mp n1
    obtain ⟨i2, j2⟩ := List.getElem?_eq_some_iff.mp n2
    have := (List.getElem_inj g3).mp (j1.trans j2.symm)
    omega
  · obtain ⟨c, A, e⟩ := f4 q x hx hq
    refine ⟨c, A.other Wt (nq (by omega)), e.trans ?_⟩
    show (arV x.2.2.1 s q).toArray = (arV x.2.2.1 s' q).toArray
    unfold arV
    split <;> simp [ha, hbb]
theorem go_putV {idx f : Nat} {ty : FieldType} {vv : Value} {s' : S} (F : FldS P idx f ty) (hM : (mY M).cls = cN P.2)
    (hlays : ∀ nm ds, (cS P.2)[f]? = some (nm, ds, ty) → Jvm.Cond.lays (cN P.2) (cN P.2) nm ds ∈ P.1 ∨ (Jvm.Cond.laysFinal (cN P.2) (cN P.2) nm ds ∈ P.1 ∧ (mY M).name = "<init>"))
    (hpos : 0 < mN M) (hr : ∀ α b, con α b vv = vv) (hn : narrow ty vv = vv) (hfi : fits ty vv = true) (hv : vv = scV ty s' f) (ho : ∀ f' x, (cS P.2)[f']? = some x → f' ≠ f → scV x.2.2 s' f' = scV x.2.2 s f') (ha : gA s' = gA s) (hbb : gB s' = gB s)
    (d : decode (mB M) pc = .ok (.putfield idx, 3)) (g : Go P M (pc + 3) L st (none, [(k, s')]) out) : Go P M pc L (vv :: .ref 1 :: st) (none, [(k, s)]) out :=
  go_ch (fun l Z a0 p e R s1 m args below meth c α b n0 h0 uC uS ok hl T locs cells slots I => by
    obtain ⟨nm, ds, f1, f2⟩ := F
    obtain ⟨hw, fa, hx, hZ, hown, hc, hml, hret, hnm, hR, hn0, htop, hsz⟩ := ok
    obtain ⟨X, Rp, Fm, Nl, hs, u1, u2, c1, c2, hN⟩ := I
    have Rp1 := rep_one Rp
    have Fd := Rp1.2.1 f _ f1
    rw [hM] at hown
    obtain ⟨T', h', X', e', Wt, stp⟩ := putF X hx hZ hown (host := "") (Or.inl (hw _ f2)) Via.refl rfl Fd Rp1.1 ((hlays nm ds f1).imp (fun q => hw _ q) (fun q => ⟨hw _ q.1, rfl, hnm.trans q.2⟩)) fa.1 (fa.2.2.1 f _ f1).2 hn hfi (g := mkF m pc (cL α b L) (vv :: .ref b :: cV α b st)) rfl rfl (hb hc d)
    refine ⟨T', _, cells, slots, ⟨X', rep_mk (by rw [e']; exact rep_put fa Rp1 f1 Wt hv ho ha hbb), by rw [e']; exact Fm.wr Wt (Nat.le_refl _) (by have := Nat.mul_le_mul_left (cK P.2 + 1) hpos; omega), Fr.snoc X' Nl hn0, by rw [e', Wt.size]; exact hs, u1, u2, c1, c2, hN⟩, fun target r => ?_⟩
    rw [show cV α b (vv :: .ref 1 :: st) = con α b vv :: .ref b :: cV α b st from rfl, hr]
    exact stp target r) g
theorem scV_sI (s : S) (f : Nat) (x : Int32) (ty : FieldType) (f' : Nat) (h : f' ≠ f) : scV ty (sI s f x) f' = scV ty s f' := by
  unfold scV; split <;> simp [gI_sI, gL_sI, h]
theorem scV_sL (s : S) (f : Nat) (x : Int64) (ty : FieldType) (f' : Nat) (h : f' ≠ f) : scV ty (sL s f x) f' = scV ty s f' := by
  unfold scV; split <;> simp [gI_sL, gL_sL, h]
/-- the word that lets the field be written -/
def Wrt (P : PI) (M : Meth) (f : Nat) : Prop := ∃ nm ds ty, (cS P.2)[f]? = some (nm, ds, ty) ∧ (Jvm.Cond.lays (cN P.2) (cN P.2) nm ds ∈ P.1 ∨ (Jvm.Cond.laysFinal (cN P.2) (cN P.2) nm ds ∈ P.1 ∧ (mY M).name = "<init>"))
theorem Wrt.use {f : Nat} {ty : FieldType} (h : Wrt P M f) : ∀ nm ds, (cS P.2)[f]? = some (nm, ds, ty) → Jvm.Cond.lays (cN P.2) (cN P.2) nm ds ∈ P.1 ∨ (Jvm.Cond.laysFinal (cN P.2) (cN P.2) nm ds ∈ P.1 ∧ (mY M).name = "<init>") := by
  obtain ⟨nm, ds, ty', h1, h2⟩ := h
  intro nm' ds' h3
  cases h1.symm.trans h3
  exact h2
theorem go_putI {idx f : Nat} (F : FldS P idx f .int) (hM : (mY M).cls = cN P.2) (hl : Wrt P M f) (hp : 0 < mN M) (d : decode (mB M) pc = .ok (.putfield idx, 3)) (g : Go P M (pc + 3) L st (none, [(k, sI s f x)]) out) : Go P M pc L (.int x :: .ref 1 :: st) (none, [(k, s)]) out :=
  go_putV F hM hl.use hp (fun _ _ => rfl) rfl rfl (by simp [scV, gI_sI]) (fun f' y _ h => scV_sI s f x _ f' h) rfl rfl d g
theorem go_putZ {idx f : Nat} (F : FldS P idx f .boolean) (hM : (mY M).cls = cN P.2) (hl : Wrt P M f) (hp : 0 < mN M) (hz : x = 0 ∨ x = 1) (d : decode (mB M) pc = .ok (.putfield idx, 3)) (g : Go P M (pc + 3) L st (none, [(k, sI s f x)]) out) : Go P M pc L (.int x :: .ref 1 :: st) (none, [(k, s)]) out :=
  go_putV F hM hl.use hp (fun _ _ => rfl) (by rcases hz with rfl | rfl <;> rfl) (by rcases hz with rfl | rfl <;> rfl) (by simp [scV, gI_sI]) (fun f' y _ h => scV_sI s f x _ f' h) rfl rfl d g
theorem go_putJ {idx f : Nat} (F : FldS P idx f .long) (hM : (mY M).cls = cN P.2) (hl : Wrt P M f) (hp : 0 < mN M) (d : decode (mB M) pc = .ok (.putfield idx, 3)) (g : Go P M (pc + 3) L st (none, [(k, sL s f u)]) out) : Go P M pc L (.long u :: .ref 1 :: st) (none, [(k, s)]) out :=
  go_putV F hM hl.use hp (fun _ _ => rfl) rfl rfl (by simp [scV, gL_sL]) (fun f' y _ h => scV_sL s f u _ f' h) rfl rfl d g
/-! ### arrays -/
theorem ix_some {A : Type} {l : List A} {j : Int32} {x : A} (h : ix l j = some x) : ¬ j < 0 ∧ l[j.toNatClampNeg]? = some x := by
  unfold ix at h; split at h
  · cases h
  · rename_i q; exact ⟨q, h⟩
theorem st_some {A : Type} {l l' : List A} {j : Int32} {x : A} (h : Jvm.AM.st l j x = some l') : ¬ j < 0 ∧ j.toNatClampNeg < l.length ∧ l' = l.set j.toNatClampNeg x := by
  unfold Jvm.AM.st at h; split at h
  · cases h
  · rename_i q; split at h
    · rename_i q2; cases h; exact ⟨q, q2, rfl⟩
    · cases h
theorem ar_in {c : Cell} {vs : List Value} {j : Int32} {vv : Value} (e : c.slots = vs.toArray) (h1 : ¬ j < 0) (h2 : vs[j.toNatClampNeg]? = some vv) : ¬ (j < 0 ∨ c.slots.size ≤ j.toNatClampNeg) ∧ c.slots[j.toNatClampNeg]? = some vv := by
  have := get_lt h2
  refine ⟨fun q => ?_, by rw [e]; simpa using h2⟩
  rcases q with q | q
  · exact h1 q
  · rw [e] at q; simp at q; omega
theorem go_iaload {q : Nat} {j : Int32} {nm ds : String} {cap : Nat} (ha : (cA P.2)[q]? = some (nm, ds, .int, cap)) (hq : Nat.blt q k = true) (hx : ix (gA s q) j = some v) (d : decode (mB M) pc = .ok (.iaload, 1)) (g : Go P M (pc + 1) L (.int v :: st) (none, [(k, s)]) out) : Go P M pc L (.int j :: .ref (q + 2) :: st) (none, [(k, s)]) out :=
  go_ch (fun l Z a0 p e R s1 m args below meth c α b n0 h0 uC uS ok hl T locs cells slots I => by
    obtain ⟨cl, A, ec⟩ := (rep_one I.2.1).2.2.2 q _ ha (by simpa [Nat.blt_eq] using hq)
    obtain ⟨h1, h2⟩ := ix_some hx
    obtain ⟨h3, h4⟩ := ar_in ec h1 (vv := .int v) (by simp [arV, h2])
    refine ⟨T, locs, cells, slots, I, fun target r => ?_⟩
    refine I.1.iaload ok.2.2.1 (j := j) (v := .int v) A.1 (State.isArrayOf_alike ok.2.2.2.1.alike A.2.1) A.2.2 h3 h4 (g := mkF m pc (cL α b L) (.int j :: .ref (b + 1 + q) :: cV α b st)) rfl rfl (hb ok.2.2.2.2.2.1 d) _ r |> fun t => ?_
    rw [show cV α b (.int j :: .ref (q + 2) :: st) = .int j :: .ref (b + (q + 1)) :: cV α b st from rfl, show b + (q + 1) = b + 1 + q by omega]
    exact t) g
theorem go_laload {q : Nat} {j : Int32} {nm ds : String} {cap : Nat} (ha : (cA P.2)[q]? = some (nm, ds, .long, cap)) (hq : Nat.blt q k = true) (hx : ix (gB s q) j = some u) (d : decode (mB M) pc = .ok (.laload, 1)) (g : Go P M (pc + 1) L (.long u :: st) (none, [(k, s)]) out) : Go P M pc L (.int j :: .ref (q + 2) :: st) (none, [(k, s)]) out :=
  go_ch (fun l Z a0 p e R s1 m args below meth c α b n0 h0 uC uS ok hl T locs cells slots I => by
    obtain ⟨cl, A, ec⟩ := (rep_one I.2.1).2.2.2 q _ ha (by simpa [Nat.blt_eq] using hq)
    obtain ⟨h1, h2⟩ := ix_some hx
    obtain ⟨h3, h4⟩ := ar_in ec h1 (vv := .long u) (by simp [arV, h2])
    refine ⟨T, locs, cells, slots, I, fun target r => ?_⟩
    refine I.1.laload ok.2.2.1 (j := j) (v := .long u) A.1 (State.isArrayOf_alike ok.2.2.2.1.alike A.2.1) A.2.2 h3 h4 (g := mkF m pc (cL α b L) (.int j :: .ref (b + 1 + q) :: cV α b st)) rfl rfl (hb ok.2.2.2.2.2.1 d) _ r |> fun t => ?_
    rw [show cV α b (.int j :: .ref (q + 2) :: st) = .int j :: .ref (b + (q + 1)) :: cV α b st from rfl, show b + (q + 1) = b + 1 + q by omega]
    exact t) g
theorem go_baload {q : Nat} {j : Int32} {nm ds : String} {ty : FieldType} {cap : Nat} (ha : (cA P.2)[q]? = some (nm, ds, ty, cap)) (hty : ty = .boolean ∨ ty = .byte) (hq : Nat.blt q k = true) (hx : ix (gA s q) j = some v) (d : decode (mB M) pc = .ok (.baload, 1)) (g : Go P M (pc + 1) L (.int v :: st) (none, [(k, s)]) out) : Go P M pc L (.int j :: .ref (q + 2) :: st) (none, [(k, s)]) out :=
  go_ch (fun l Z a0 p e R s1 m args below meth c α b n0 h0 uC uS ok hl T locs cells slots I => by
    obtain ⟨cl, A, ec⟩ := (rep_one I.2.1).2.2.2 q _ ha (by simpa [Nat.blt_eq] using hq)
    obtain ⟨h1, h2⟩ := ix_some hx
    refine ⟨T, locs, cells, slots, I, fun target r => ?_⟩
    rw [show cV α b (.int j :: .ref (q + 2) :: st) = .int j :: .ref (b + (q + 1)) :: cV α b st from rfl, show b + (q + 1) = b + 1 + q by omega]
    rcases hty with rfl | rfl
    · obtain ⟨h3, h4⟩ := ar_in ec h1 (vv := .int v) (by simp [arV, h2])
      exact I.1.baloadBooleans ok.2.2.1 (j := j) (v := .int v) A.1 (State.isArrayOf_alike ok.2.2.2.1.alike A.2.1) A.2.2 h3 h4 (g := mkF m pc (cL α b L) (.int j :: .ref (b + 1 + q) :: cV α b st)) rfl rfl (hb ok.2.2.2.2.2.1 d) _ r
    · obtain ⟨h3, h4⟩ := ar_in ec h1 (vv := .int v) (by simp [arV, h2])
      exact I.1.baloadBytes ok.2.2.1 (j := j) (v := .int v) A.1 (State.isArrayOf_alike ok.2.2.2.1.alike A.2.1) A.2.2 h3 h4 (g := mkF m pc (cL α b L) (.int j :: .ref (b + 1 + q) :: cV α b st)) rfl rfl (hb ok.2.2.2.2.2.1 d) _ r) g
theorem go_alen {q : Nat} {nm ds : String} {ty : FieldType} {cap : Nat} (ha : (cA P.2)[q]? = some (nm, ds, ty, cap)) (hty : ty ≠ .long) (hq : Nat.blt q k = true) (d : decode (mB M) pc = .ok (.arraylength, 1)) (g : Go P M (pc + 1) L (.int (gA s q).length.toInt32 :: st) (none, [(k, s)]) out) : Go P M pc L (.ref (q + 2) :: st) (none, [(k, s)]) out :=
  go_ch (fun l Z a0 p e R s1 m args below meth c α b n0 h0 uC uS ok hl T locs cells slots I => by
    obtain ⟨cl, A, ec⟩ := (rep_one I.2.1).2.2.2 q _ ha (by simpa [Nat.blt_eq] using hq)
    refine ⟨T, locs, cells, slots, I, fun target r => ?_⟩
    have e1 : cl.slots.size = (gA s q).length := by rw [ec]; cases ty <;> simp [arV] at hty ⊢
    rw [show cV α b (.ref (q + 2) :: st) = .ref (b + (q + 1)) :: cV α b st from rfl, show b + (q + 1) = b + 1 + q by omega]
    refine I.1.arraylength ok.2.2.1 (cell := cl) A.1 (State.isArrayOf_alike ok.2.2.2.1.alike A.2.1) (g := mkF m pc (cL α b L) (.ref (b + 1 + q) :: cV α b st)) rfl rfl (hb ok.2.2.2.2.2.1 d) _ ?_
    rw [e1]; exact r) g
theorem go_sload {l0 : List Int32} {os : List (Nat × S)} {j : Int32} (hx : ix l0 j = some v) (d : decode (mB M) pc = .ok (.iaload, 1)) (g : Go P M (pc + 1) L (.int v :: st) (some l0, os) out) : Go P M pc L (.int j :: .ref 0 :: st) (some l0, os) out :=
  go_ch (fun l Z a0 p e R s1 m args below meth c α b n0 h0 uC uS ok hl T locs cells slots I => by
    obtain ⟨cl, A, ec⟩ := (I.2.1.1 l0 rfl).1
    obtain ⟨h1, h2⟩ := ix_some hx
    obtain ⟨h3, h4⟩ := ar_in ec h1 (vv := .int v) (by simp [h2])
    exact ⟨T, locs, cells, slots, I, fun target r => I.1.iaload ok.2.2.1 (j := j) (v := .int v) A.1 (State.isArrayOf_alike ok.2.2.2.1.alike A.2.1) A.2.2 h3 h4 (g := mkF m pc (cL α b L) (cV α b (.int j :: .ref 0 :: st))) rfl rfl (hb ok.2.2.2.2.2.1 d) _ r⟩) g
theorem go_slen {l0 : List Int32} {os : List (Nat × S)} (d : decode (mB M) pc = .ok (.arraylength, 1)) (g : Go P M (pc + 1) L (.int l0.length.toInt32 :: st) (some l0, os) out) : Go P M pc L (.ref 0 :: st) (some l0, os) out :=
  go_ch (fun l Z a0 p e R s1 m args below meth c α b n0 h0 uC uS ok hl T locs cells slots I => by
    obtain ⟨cl, A, ec⟩ := (I.2.1.1 l0 rfl).1
    refine ⟨T, locs, cells, slots, I, fun target r => ?_⟩
    have e1 : cl.slots.size = l0.length := by rw [ec]; simp
    refine I.1.arraylength ok.2.2.1 (cell := cl) A.1 (State.isArrayOf_alike ok.2.2.2.1.alike A.2.1) (g := mkF m pc (cL α b L) (cV α b (.ref 0 :: st))) rfl rfl (hb ok.2.2.2.2.2.1 d) _ ?_
    rw [e1]; exact r) g
/-- a component of an array of the object takes its value -/
theorem rep_store {Z : State} {ci : CI} {h h' : Heap} {b : Nat} {s s' : S} {k q i : Nat} {nm ds : String} {ty : FieldType} {cap : Nat} {vv : Value} (F : Rep1 Z ci h b (k, s)) (hf : (cA ci)[q]? = some (nm, ds, ty, cap)) (hq : q < k)
    (Wt : Wr h h' (b + 1 + q) i vv) (hi : i < (arV ty s q).length) (hv : arV ty s' q = (arV ty s q).set i vv) (ho : ∀ q' x, (cA ci)[q']? = some x → q' ≠ q → arV x.2.2.1 s' q' = arV x.2.2.1 s q') (ha : gI s' = gI s) (hbb : gL s' = gL s) : Rep1 Z ci h' b (k, s') := by
  obtain ⟨f1, f2, f3, f4⟩ := F
  refine ⟨f1.wr Wt, fun f x hx => ?_, fun q' x hx => (f3 q' x hx).other Wt (Or.inl (nq (by omega))), fun q' x hx hq' => ?_⟩
  · have e : scV x.2.2 s' f = scV x.2.2 s f := by unfold scV; split <;> simp [ha, hbb]
    show Fld Z h' b (cN ci) x.1 x.2.1 (scV x.2.2 s' f)
    rw [e]
    exact (f2 f x hx).other Wt (Or.inl (nq (by omega)))
  · by_cases e : q' = q
    · subst e
      cases hf.symm.trans hx
      obtain ⟨c, A, ec⟩ := f4 q' _ hf hq
      refine ⟨_, A.same Wt, ?_⟩
      show (c.setSlot i vv).slots = (arV ty s' q').toArray
      rw [hv]
      simp only [Cell.setSlot, ec]
      simp
    · obtain ⟨c, A, ec⟩ := f4 q' x hx hq'
      refine ⟨c, A.other Wt (nq (by omega)), ec.trans ?_⟩
      rw [ho q' x hx e]
theorem arV_sA (s : S) (q : Nat) (l : List Int32) (ty : FieldType) (q' : Nat) (h : q' ≠ q) : arV ty (sA s q l) q' = arV ty s q' := by
  unfold arV; split <;> simp [gA_sA, gB_sA, h]
theorem arV_sB (s : S) (q : Nat) (l : List Int64) (ty : FieldType) (q' : Nat) (h : q' ≠ q) : arV ty (sB s q l) q' = arV ty s q' := by
  unfold arV; split <;> simp [gA_sB, gB_sB, h]
theorem in_of {c : Cell} {vs : List Value} {j : Int32} (e : c.slots = vs.toArray) (h1 : ¬ j < 0) (h2 : j.toNatClampNeg < vs.length) : ¬ (j < 0 ∨ c.slots.size ≤ j.toNatClampNeg) := fun q => by
  rcases q with q | q
  · exact h1 q
  · rw [e] at q; simp at q; omega
theorem go_iastore {q : Nat} {j : Int32} {nm ds : String} {cap : Nat} {l' : List Int32} (ha : (cA P.2)[q]? = some (nm, ds, .int, cap)) (hq : Nat.blt q k = true) (hp : 0 < mN M) (hx : Jvm.AM.st (gA s q) j x = some l') (d : decode (mB M) pc = .ok (.iastore, 1)) (g : Go P M (pc + 1) L st (none, [(k, sA s q l')]) out) : Go P M pc L (.int x :: .int j :: .ref (q + 2) :: st) (none, [(k, s)]) out :=
  go_ch (fun l Z a0 p e R s1 m args below meth c α b n0 h0 uC uS ok hl T locs cells slots I => by
    have hq' : q < k := by simpa [Nat.blt_eq] using hq
    have hqK := get_lt ha
    obtain ⟨X, Rp, Fm, Nl, hs, u1, u2, c1, c2, hN⟩ := I
    obtain ⟨cl, A, ec⟩ := (rep_one Rp).2.2.2 q _ ha hq'
    obtain ⟨h1, h2, rfl⟩ := st_some hx
    have hin := in_of ec h1 (by simpa [arV] using h2)
    obtain ⟨T', h', X', e', Wt, stp⟩ := stI X ok.2.2.1 ok.2.2.2.1 rfl A (x := x) hin (g := mkF m pc (cL α b L) (.int x :: .int j :: .ref (b + 1 + q) :: cV α b st)) rfl rfl (hb ok.2.2.2.2.2.1 d)
    refine ⟨T', _, cells, slots, ⟨X', rep_mk (by rw [e']; exact rep_store (rep_one Rp) ha hq' Wt (by simpa [arV] using h2) (by simp [arV, gA_sA, List.map_set]) (fun q' y _ h => arV_sA s q _ _ q' h) rfl rfl), by rw [e']; exact Fm.wr Wt (by omega) (by have := Nat.mul_le_mul_left (cK P.2 + 1) hp; simp only [cK] at *; omega), Fr.snoc X' Nl (by have := ok.2.2.2.2.2.2.2.2.2.2.1; omega), by rw [e', Wt.size]; exact hs, u1, u2, c1, c2, hN⟩, fun target r => ?_⟩
    rw [show cV α b (.int x :: .int j :: .ref (q + 2) :: st) = .int x :: .int j :: .ref (b + (q + 1)) :: cV α b st from rfl, show b + (q + 1) = b + 1 + q by omega]
    exact stp target r) g
theorem go_lastore {q : Nat} {j : Int32} {nm ds : String} {cap : Nat} {l' : List Int64} (ha : (cA P.2)[q]? = some (nm, ds, .long, cap)) (hq : Nat.blt q k = true) (hp : 0 < mN M) (hx : Jvm.AM.st (gB s q) j u = some l') (d : decode (mB M) pc = .ok (.lastore, 1)) (g : Go P M (pc + 1) L st (none, [(k, sB s q l')]) out) : Go P M pc L (.long u :: .int j :: .ref (q + 2) :: st) (none, [(k, s)]) out :=
  go_ch (fun l Z a0 p e R s1 m args below meth c α b n0 h0 uC uS ok hl T locs cells slots I => by
    have hq' : q < k := by simpa [Nat.blt_eq] using hq
    have hqK := get_lt ha
    obtain ⟨X, Rp, Fm, Nl, hs, u1, u2, c1, c2, hN⟩ := I
    obtain ⟨cl, A, ec⟩ := (rep_one Rp).2.2.2 q _ ha hq'
    obtain ⟨h1, h2, rfl⟩ := st_some hx
    have hin := in_of ec h1 (by simpa [arV] using h2)
    obtain ⟨T', h', X', e', Wt, stp⟩ := stJ X ok.2.2.1 ok.2.2.2.1 rfl A (x := u) hin (g := mkF m pc (cL α b L) (.long u :: .int j :: .ref (b + 1 + q) :: cV α b st)) rfl rfl (hb ok.2.2.2.2.2.1 d)
    refine ⟨T', _, cells, slots, ⟨X', rep_mk (by rw [e']; exact rep_store (rep_one Rp) ha hq' Wt (by simpa [arV] using h2) (by simp [arV, gB_sB, List.map_set]) (fun q' y _ h => arV_sB s q _ _ q' h) rfl rfl), by rw [e']; exact Fm.wr Wt (by omega) (by have := Nat.mul_le_mul_left (cK P.2 + 1) hp; simp only [cK] at *; omega), Fr.snoc X' Nl (by have := ok.2.2.2.2.2.2.2.2.2.2.1; omega), by rw [e', Wt.size]; exact hs, u1, u2, c1, c2, hN⟩, fun target r => ?_⟩
    rw [show cV α b (.long u :: .int j :: .ref (q + 2) :: st) = .long u :: .int j :: .ref (b + (q + 1)) :: cV α b st from rfl, show b + (q + 1) = b + 1 + q by omega]
    exact stp target r) g
theorem go_bastore {q : Nat} {j : Int32} {nm ds : String} {ty : FieldType} {cap : Nat} {l' : List Int32} (ha : (cA P.2)[q]? = some (nm, ds, ty, cap)) (hty : ty = .boolean ∨ ty = .byte) (hq : Nat.blt q k = true) (hp : 0 < mN M) (hv : v = nar ty x) (hx : Jvm.AM.st (gA s q) j v = some l') (d : decode (mB M) pc = .ok (.bastore, 1)) (g : Go P M (pc + 1) L st (none, [(k, sA s q l')]) out) : Go P M pc L (.int x :: .int j :: .ref (q + 2) :: st) (none, [(k, s)]) out :=
  go_ch (fun l Z a0 p e R s1 m args below meth c α b n0 h0 uC uS ok hl T locs cells slots I => by
    have hq' : q < k := by simpa [Nat.blt_eq] using hq
    have hqK := get_lt ha
    obtain ⟨X, Rp, Fm, Nl, hs, u1, u2, c1, c2, hN⟩ := I
    obtain ⟨cl, A, ec⟩ := (rep_one Rp).2.2.2 q _ ha hq'
    obtain ⟨h1, h2, rfl⟩ := st_some hx
    subst hv
    have hlen : j.toNatClampNeg < (arV ty s q).length := by rcases hty with rfl | rfl <;> simpa [arV] using h2
    have hset : arV ty (sA s q ((gA s q).set j.toNatClampNeg (nar ty x))) q = (arV ty s q).set j.toNatClampNeg (.int (nar ty x)) := by rcases hty with rfl | rfl <;> simp [arV, gA_sA, List.map_set]
    have hin := in_of ec h1 hlen
    obtain ⟨T', h', X', e', Wt, stp⟩ : ∃ T' h', Stand p l e R s1 m args below meth c T' (locs ++ [⟨b + 1 + q, j.toNatClampNeg⟩]) cells slots ∧ T'.heap = h' ∧ Wr T.heap h' (b + 1 + q) j.toNatClampNeg (.int (nar ty x)) ∧ ∀ target, Steps p.tables e below (T'.setTop (mkF m (pc + 1) (cL α b L) (cV α b st))) target → Steps p.tables e below (T.setTop (mkF m pc (cL α b L) (.int x :: .int j :: .ref (b + 1 + q) :: cV α b st))) target := by
      rcases hty with rfl | rfl
      · exact stZ X ok.2.2.1 ok.2.2.2.1 rfl A (x := x) hin (g := mkF m pc (cL α b L) (.int x :: .int j :: .ref (b + 1 + q) :: cV α b st)) rfl rfl (hb ok.2.2.2.2.2.1 d)
      · exact stB X ok.2.2.1 ok.2.2.2.1 rfl A (x := x) hin (g := mkF m pc (cL α b L) (.int x :: .int j :: .ref (b + 1 + q) :: cV α b st)) rfl rfl (hb ok.2.2.2.2.2.1 d)
    refine ⟨T', _, cells, slots, ⟨X', rep_mk (by rw [e']; exact rep_store (rep_one Rp) ha hq' Wt hlen hset (fun q' y _ h => arV_sA s q _ _ q' h) rfl rfl), by rw [e']; exact Fm.wr Wt (by omega) (by have := Nat.mul_le_mul_left (cK P.2 + 1) hp; simp only [cK] at *; omega), Fr.snoc X' Nl (by have := ok.2.2.2.2.2.2.2.2.2.2.1; omega), by rw [e', Wt.size]; exact hs, u1, u2, c1, c2, hN⟩, fun target r => ?_⟩
    rw [show cV α b (.int x :: .int j :: .ref (q + 2) :: st) = .int x :: .int j :: .ref (b + (q + 1)) :: cV α b st from rfl, show b + (q + 1) = b + 1 + q by omega]
    exact stp target r) g
/-! ## 5. A method as a whole; calls -/
def Call (P : PI) (M : Meth) (as : List Value) (w : W) (out : Option Value × W) : Prop :=
  ∀ (l : Launch) (Z : State) (a0 : Array Value) (ws : List Jvm.Cond) (α b n0 : Nat) (h0 : Heap), (∀ d ∈ P.1, d.before a0 Z = true) → Facts Z a0 P.2 → n0 ≤ b → RepW Z P.2 α b w h0 → w.2.length ≤ mN M → (mTop M = true → h0.size = b + usedC w ∧ usedC w = mUC M ∧ usedS P.2 w = mUS M) →
    MetFree l (mY M) (head1 (Jvm.Cond.code (mY M) (mB M) (mL M) (mT M) :: ws) (mR M)) (fun a U => a = (cV α b as).toArray ∧ Z.Warmed39 U.vm ∧ U.heap = h0) (fun _ _ _ _ _ => True)
      (fun _ U o U' => ∃ v L, o = .returned v ∧ (v = out.1.map (con α b) ∧ Fr n0 L ∧ RepW Z P.2 α b out.2 U'.heap ∧ Frm b (b + (cK P.2 + 1) * mN M) h0 U'.heap ∧ ∃ k, U'.heap.size = h0.size + k ∧ k + usedC w = usedC out.2) ∧ FrameEnd U o U' L (mR M).cells (mR M).slots)
theorem call_of_go {as : List Value} (hpl : plainName (mY M).cls = true) (hlen : (entryL as (mL M)).length = mL M) (hret : mT M = none → out.1 = none) (g : Go P M 0 (entryL as (mL M)) [] w out) : Call P M as w out := by
  intro l Z a0 ws α b n0 h0 hw fa hn0 Rp hN htop
  refine MetFree.of_bodySF (plainFor_of_name hpl) hisR ?_
  intro p e s m args below meth c s₁ Bd hml0 hP hK
  obtain ⟨rfl, hZ, hh⟩ := hP
  have X0 : Stand p l e (mR M) s m (cV α b as).toArray below meth c s₁ [] 0 0 := Stand.of_body Bd
  have e0 : s₁.heap = h0 := by rw [← hh, Bd.state]; rfl
  obtain ⟨T', L', c', n', I', fin⟩ := g hlen l Z a0 p e (mR M) s m (cV α b as).toArray below meth c α b n0 h0 (usedC w) (usedS P.2 w) ⟨hw, fa, Bd.exec, hZ, findClass_of_methodNamed Bd.named, Bd.bytes, hml0, Bd.returns, (name_of_methodNamed Bd.named Bd.method).1, rfl, hn0, htop, by rw [hh]⟩ s₁ [] 0 0 ⟨X0, by rw [e0]; exact Rp, by rw [e0]; exact Frm.refl _ _ _, Fr.nil _, by rw [e0]; rfl, by simp, by simp, Nat.zero_le _, Nat.zero_le _, hN⟩
  obtain ⟨X', Rp', Fm', Nl', hs', u1', u2', c1', c2', hN'⟩ := I'
  obtain ⟨fs, hr, hrun, hended, hW, hsame⟩ := X'.leave (v := out.1.map (con α b)) (fun h => by rw [Bd.returns] at h; rw [hret h]; rfl)
  refine ⟨_, _, ?_, hrun, hended, _, _, rfl, ⟨rfl, Nl', Rp', Fm', c', hs', u1'⟩, ⟨_, rfl⟩, hW, hsame.mono c1' c2'⟩
  have q := fin fs hr
  rw [← entry_locals] at q
  exact q
def nr : Value → Bool
  | .ref _ => false
  | _ => true
theorem con_nr {α b : Nat} {v : Value} (h : nr v = true) : con α b v = v := by
  cases v <;> first | rfl | cases h
theorem cV_nr {α b : Nat} {l : List Value} (h : l.all nr = true) : cV α b l = l := by
  have : ∀ x ∈ l, con α b x = x := fun x hx => con_nr (List.all_eq_true.mp h x hx)
  unfold cV
  exact (List.map_congr_left this).trans (List.map_id _)
theorem rep_obj {Z : State} {ci : CI} {α b : Nat} {h : Heap} {i : Nat} (F : RepW Z ci α b w h) (ho : w.2[i]? = some o) : RepW Z ci 0 (b + (cK ci + 1) * i) (none, [o]) h := rep_mk (F.2 i o ho)
theorem rep_back {Z : State} {ci : CI} {α α' b : Nat} {h h' : Heap} {i : Nat} (F : RepW Z ci α b w h) (ho : w.2[i]? = some o) (G : RepW Z ci α' (b + (cK ci + 1) * i) (none, [o']) h') (Fm : Frm (b + (cK ci + 1) * i) (b + (cK ci + 1) * i + (cK ci + 1) * 1) h h') : RepW Z ci α b (w.1, w.2.set i o') h' := by
  refine ⟨fun l hl => ⟨((F.1 l hl).1).frm fun c q => Fm _ _ q (Or.inl ?_), (F.1 l hl).2⟩, fun j oj hj => ?_⟩
  · have := (F.1 l hl).2; exact Nat.lt_of_lt_of_le this (Nat.le_add_right _ _)
  · by_cases e : j = i
    · subst e
      rw [show (w.1, w.2.set j o').2 = w.2.set j o' from rfl, List.getElem?_set_self (get_lt ho)] at hj
      cases hj
      exact rep_one G
    · rw [show (w.1, w.2.set i o').2 = w.2.set i o' from rfl, List.getElem?_set_ne (Ne.symm e)] at hj
      refine (F.2 j oj hj).frm fun x c q1 q2 q3 => Fm _ _ q3 ?_
      rcases Nat.lt_or_gt_of_ne e with q | q
      · have := Nat.mul_le_mul_left (cK ci + 1) q
        rw [Nat.mul_succ] at this; omega
      · have := Nat.mul_le_mul_left (cK ci + 1) q
        rw [Nat.mul_succ] at this; omega
theorem sum_set {A : Type} (f : A → Nat) {a a' : A} : ∀ {l : List A} {i : Nat}, l[i]? = some a → ((l.set i a').map f).sum + f a = (l.map f).sum + f a'
  | [], i, h => by simp at h
  | b :: r, 0, h => by simp at h; subst h; simp; omega
  | b :: r, i + 1, h => by
    simp only [List.getElem?_cons_succ] at h
    have := sum_set f (a' := a') h
    simp only [List.set_cons_succ, List.map_cons, List.sum_cons]; omega
def CQ (ci : CI) (Z : State) (α b n0 : Nat) (h0 : Heap) (N : Nat) (w : W) (out : Option Value × W) (v : Option Value) (hp : Heap) (L : List Loc) : Prop := v = out.1.map (con α b) ∧ Fr n0 L ∧ RepW Z ci α b out.2 hp ∧ Frm b (b + (cK ci + 1) * N) h0 hp ∧ ∃ k, hp.size = h0.size + k ∧ k + usedC w = usedC out.2
/-- what a callee that makes nothing must fit into -/
def Small (M M' : Meth) (rest : List Value) : Prop := (mR M').cells = 0 ∧ (mR M').slots = 0 ∧ mTop M' = false ∧ Nat.ble ((mR M').frames + 1) (mR M).frames = true ∧ Nat.ble ((rest.map fun v => v.category).sum + (mL M' + 11) + (mR M').locals) (mR M).locals = true
theorem ret_st {α b b' : Nat} {r : Option Value} {rest : List Value} (hr : r.all nr = true) : (r.map (con 0 b')).toList ++ cV α b rest = cV α b (r.toList ++ rest) := by
  cases r with
  | none => rfl
  | some v => simp only [Option.map_some, Option.toList_some, cV, List.cons_append, List.nil_append, List.map_cons]; rw [con_nr (show nr v = true from hr), con_nr (show nr v = true from hr)]
theorem inv_obj {l : Launch} {Z : State} {p : Program} {e : Env} {R : Room} {s : State} {m : MethodId} {args : Array Value} {below : List Frame} {meth : Method} {c : Code} {α b n0 : Nat} {h0 : Heap} {uC uS : Nat} {T T2 : State} {locs L2 : List Loc} {cells slots rc rs i : Nat}
    (I : Inv P M l Z p e R s m args below meth c α b n0 h0 uC uS w T locs cells slots) (ho : w.2[i]? = some o) (X2 : Stand p l e R s m args below meth c T2 (locs ++ L2) (cells + rc) (slots + rs))
    (N2 : Fr n0 L2) (R2 : RepW Z P.2 0 (b + (cK P.2 + 1) * i) (none, [o']) T2.heap) (F2 : Frm (b + (cK P.2 + 1) * i) (b + (cK P.2 + 1) * i + (cK P.2 + 1) * 1) T.heap T2.heap) (k2 : ∃ k, T2.heap.size = T.heap.size + k ∧ k + usedC (none, [o]) = usedC (none, [o']))
    (hC : o'.1 = o.1 + rc) (hS : usedS P.2 (none, [o']) = usedS P.2 (none, [o]) + rs) (q1 : cells + rc ≤ R.cells) (q2 : slots + rs ≤ R.slots) : Inv P M l Z p e R s m args below meth c α b n0 h0 uC uS (w.1, w.2.set i o') T2 (locs ++ L2) (cells + rc) (slots + rs) := by
  obtain ⟨X, Rp, Fm, Nl, hs, u1, u2, c1, c2, hN⟩ := I
  obtain ⟨k, k1, k3⟩ := k2
  have hi := get_lt ho
  have a1 := sum_set (fun o : Nat × S => 1 + o.1) (a' := o') ho
  have a2 := sum_set (fun o : Nat × S => cF P.2 + (((cA P.2).take o.1).map fun x => x.2.2.2).sum) (a' := o') ho
  have hle : (cK P.2 + 1) * (i + 1) ≤ (cK P.2 + 1) * mN M := Nat.mul_le_mul_left _ (by omega)
  rw [Nat.mul_succ] at hle
  refine ⟨X2, rep_back Rp ho R2 F2, Fm.trans (F2.wide (Nat.le_add_right _ _) (by omega)), Nl.app N2, ?_, ?_, ?_, q1, q2, by simpa using hN⟩
  · simp only [usedC, List.map_cons, List.map_nil, List.sum_cons, List.sum_nil] at k3; omega
  · simp only [usedC] at u1 ⊢; omega
  · simp only [usedS, List.map_cons, List.map_nil, List.sum_cons, List.sum_nil] at u2 hS ⊢; omega
def LinkV (P : PI) (own : String) (idx : Nat) (M' : Meth) : Prop := Jvm.Cond.methodLink own idx (mY M') ∈ P.1 ∧ Jvm.Cond.declares (mY M') ∈ P.1 ∧ Jvm.Cond.selects (cN P.2) (mY M') (mY M') ∈ P.1 ∧ Jvm.Cond.instanceMethod (mY M') ∈ P.1 ∧ Jvm.Cond.code (mY M') (mB M') (mL M') (mT M') ∈ P.1 ∧ (mY M').cls = cN P.2 ∧ mN M' = 1
def LinkP (P : PI) (own : String) (idx : Nat) (M' : Meth) : Prop := Jvm.Cond.methodLink own idx (mY M') ∈ P.1 ∧ Jvm.Cond.instanceMethod (mY M') ∈ P.1 ∧ Jvm.Cond.privateMethod (mY M') ∈ P.1 ∧ Jvm.Cond.code (mY M') (mB M') (mL M') (mT M') ∈ P.1 ∧ (mY M').cls = cN P.2 ∧ mN M' = 1
def LinkS (P : PI) (own : String) (idx : Nat) (M' : Meth) : Prop := Jvm.Cond.methodLink own idx (mY M') ∈ P.1 ∧ Jvm.Cond.static (mY M') ∈ P.1 ∧ Jvm.Cond.initialized (mY M').cls ∈ P.1 ∧ Jvm.Cond.code (mY M') (mB M') (mL M') (mT M') ∈ P.1 ∧ ((mY M').cls ≠ "java/lang/invoke/MethodHandle" ∧ (mY M').cls ≠ "java/lang/invoke/VarHandle")
def LinkI (P : PI) (own : String) (idx : Nat) (M' : Meth) : Prop := Jvm.Cond.methodLink own idx (mY M') ∈ P.1 ∧ Jvm.Cond.instanceMethod (mY M') ∈ P.1 ∧ Jvm.Cond.code (mY M') (mB M') (mL M') (mT M') ∈ P.1 ∧ (mY M').cls = cN P.2 ∧ mN M' = 1 ∧ mT M' = none ∧ (mY M').name = "<init>"
variable {M' : Meth} {i idx id : Nat} {as rest : List Value} {rv : Option Value} {ps : List FieldType} {rt : Option FieldType}
theorem cV_call {α b : Nat} {jd : Nat} (hnr : as.all nr = true) (hst : st = as.reverse ++ .ref (jd + 1) :: rest) : cV α b st = as.reverse ++ .ref (b + jd) :: cV α b rest := by
  subst hst
  have h1 : cV α b as.reverse = as.reverse := cV_nr (by rw [List.all_reverse]; exact hnr)
  unfold cV at h1 ⊢
  rw [List.map_append, h1]; rfl
theorem go_virt (lk : LinkV P (mY M).cls idx M') (pd : parseMethodDescriptor (mY M').desc = some ⟨ps, rt⟩) (hn : as.length = ps.length) (hid : id = (cK P.2 + 1) * i + 1) (hst : st = as.reverse ++ .ref id :: rest) (hnr : as.all nr = true) (hrr : rv.all nr = true) (ho : w.2[i]? = some o) (hw' : w' = (w.1, w.2.set i o')) (hC : o'.1 = o.1) (sm : Small M M' rest)
    (d : decode (mB M) pc = .ok (.invokevirtual idx, 3)) (cl : Call P M' (.ref 1 :: as) (none, [o]) (rv, (none, [o']))) (g : Go P M (pc + 3) L (rv.toList ++ rest) w' out) : Go P M pc L st w out :=
  go_ch (fun l Z a0 p e R s1 m args below meth c α b n0 h0 uC uS ok hl T locs cells slots I => by
    subst hw' hid
    obtain ⟨hw, fa, hx, hZ, hown, hc, hml, hret, hnm, hR, hn0, htop, hsz⟩ := ok
    obtain ⟨k1, k2, k3, k4, k5, k6, k7⟩ := lk
    obtain ⟨z1, z2, z3, z4, z5⟩ := sm
    have C := cl l Z a0 [] 0 (b + (cK P.2 + 1) * i) n0 T.heap hw fa (Nat.le_trans hn0 (Nat.le_add_right _ _)) (rep_obj I.2.1 ho) (by rw [k7]; exact Nat.le_refl _) (fun q => by rw [z3] at q; cases q)
    have Bk := backOf (Q := CQ P.2 Z 0 (b + (cK P.2 + 1) * i) n0 T.heap (mN M') (none, [o]) (rv, (none, [o']))) (R := R) (p := p) (e := e) (below := below) (s := s1) (args := args) (len := 3) (W := (rest.map fun v => v.category).sum) C hZ (hw _ k5) (by rw [k6]; exact fa.2.1) (by rw [hR]; exact Nat.le_of_ble_eq_true z4) (by rw [hR]; exact Nat.le_of_ble_eq_true z5)
    have E := (I.2.1.2 i o ho).1
    obtain ⟨cB, kB, q1, q2, q3⟩ := isOf (T := T) hZ rfl E
    obtain ⟨v, vm1, ⟨T2, Lx, kx, nx⟩, -, X2, ⟨L2, hQ, l2, y2, n2⟩, stp⟩ := I.1.virtualBack hx (y := mY M') (z := mY M') hown (mvT hZ (hw _ k1)) (mvT hZ (hw _ k2)) (notFace_of_selects (args := #[]) (mvT hZ (hw _ k3))) (mvT hZ (hw _ k3)) (mvT hZ (hw _ k4)) (by rw [k6]; exact fa.2.2.2.2.2.2) Bk q1 q3 (g := mkF m pc (cL α b L) (cV α b st)) rfl (by show (cL α b L).size = c.maxLocals; rw [cL_size, hl, hml]) (Steps.refl _) (argsL := as) (rest := cV α b rest) (lenOf pd hn) (cV_call hnr hst)
      (by show 2 * 0 + _ ≤ _; rw [cV_sum]; exact Nat.le_of_eq (Nat.zero_add _)) (hb hc d) (fun _ _ => ⟨by rw [show (cV 0 (b + (cK P.2 + 1) * i) (.ref 1 :: as)) = .ref (b + (cK P.2 + 1) * i) :: cV 0 (b + (cK P.2 + 1) * i) as from rfl, cV_nr hnr], rfl, by rw [z1]; exact I.2.2.2.2.2.2.2.1, by rw [z2]; exact I.2.2.2.2.2.2.2.2.1⟩)
    dsimp only [Pt.U, Pt.locs, Pt.cells, Pt.slots] at X2 l2 y2 n2 stp hQ
    subst l2 y2 n2
    obtain ⟨rfl, N2, R2, F2, k8⟩ := hQ
    rw [k7] at F2
    refine ⟨T2, _, _, _, inv_obj I ho X2 N2 R2 F2 k8 (by rw [z1]; exact hC) (by rw [z2]; simp [usedS, hC]) (by rw [z1]; exact I.2.2.2.2.2.2.2.1) (by rw [z2]; exact I.2.2.2.2.2.2.2.2.1), fun target r => stp.trans ?_⟩
    rw [← ret_st (b' := b + (cK P.2 + 1) * i) hrr] at r
    exact r) g
theorem go_priv (lk : LinkP P (mY M).cls idx M') (pd : parseMethodDescriptor (mY M').desc = some ⟨ps, rt⟩) (hn : as.length = ps.length) (hid : id = (cK P.2 + 1) * i + 1) (hst : st = as.reverse ++ .ref id :: rest) (hnr : as.all nr = true) (hrr : rv.all nr = true) (ho : w.2[i]? = some o) (hw' : w' = (w.1, w.2.set i o')) (hC : o'.1 = o.1) (sm : Small M M' rest)
    (d : decode (mB M) pc = .ok (.invokevirtual idx, 3)) (cl : Call P M' (.ref 1 :: as) (none, [o]) (rv, (none, [o']))) (g : Go P M (pc + 3) L (rv.toList ++ rest) w' out) : Go P M pc L st w out :=
  go_ch (fun l Z a0 p e R s1 m args below meth c α b n0 h0 uC uS ok hl T locs cells slots I => by
    subst hw' hid
    obtain ⟨hw, fa, hx, hZ, hown, hc, hml, hret, hnm, hR, hn0, htop, hsz⟩ := ok
    obtain ⟨k1, k4, k3, k5, k6, k7⟩ := lk
    obtain ⟨z1, z2, z3, z4, z5⟩ := sm
    have C := cl l Z a0 [] 0 (b + (cK P.2 + 1) * i) n0 T.heap hw fa (Nat.le_trans hn0 (Nat.le_add_right _ _)) (rep_obj I.2.1 ho) (by rw [k7]; exact Nat.le_refl _) (fun q => by rw [z3] at q; cases q)
    have Bk := backOf (Q := CQ P.2 Z 0 (b + (cK P.2 + 1) * i) n0 T.heap (mN M') (none, [o]) (rv, (none, [o']))) (R := R) (p := p) (e := e) (below := below) (s := s1) (args := args) (len := 3) (W := (rest.map fun v => v.category).sum) C hZ (hw _ k5) (by rw [k6]; exact fa.2.1) (by rw [hR]; exact Nat.le_of_ble_eq_true z4) (by rw [hR]; exact Nat.le_of_ble_eq_true z5)
    obtain ⟨cell, q1, q2⟩ := (I.2.1.2 i o ho).1.cell
    have hy : (mY M').cls ≠ "java/lang/invoke/MethodHandle" ∧ (mY M').cls ≠ "java/lang/invoke/VarHandle" := by rw [k6]; exact fa.2.2.2.2.2.2
    have hpriv : s1.PrivateAt (mY M') := Cond.privateMethod_at (mvP hZ (hw _ k3) (args := #[]))
    have hin : (Jvm.Cond.instanceMethod (mY M')).before args s1 = true := mvT hZ (hw _ k4)
    obtain ⟨c2, kk, i1, i2, i3, i4, -⟩ := Cond.instantiable_spec fa.1
    obtain ⟨k', j1, j2⟩ := hZ.alike.2.2 _ _ i2
    have hsel : (Jvm.Cond.selects (mY M').cls (mY M') (mY M')).before args s1 = true := selects_self_of_private (c := c2) (k := k') (by rw [k6, hZ.alike.findClass]; exact i1) j1 (by
      have : kk.isInterface = false := by simp only [Bool.or_eq_false_iff] at i4; exact i4.1
      rw [j2]; exact this) hpriv hin hy
    obtain ⟨v, vm1, ⟨T2, Lx, kx, nx⟩, -, X2, ⟨L2, hQ, l2, y2, n2⟩, stp⟩ := I.1.privateBack hx (y := mY M') hown (mvT hZ (hw _ k1)) hin hsel hpriv (mvT hZ (hw _ k5)) hy Bk (g := mkF m pc (cL α b L) (cV α b st)) rfl (by show (cL α b L).size = c.maxLocals; rw [cL_size, hl, hml]) (Steps.refl _) (a := b + (cK P.2 + 1) * i) q1 q2 (argsL := as) (rest := cV α b rest) (lenOf pd hn) (cV_call hnr hst)
      (by show 2 * 0 + _ ≤ _; rw [cV_sum]; exact Nat.le_of_eq (Nat.zero_add _)) (hb hc d) (fun _ _ => ⟨by rw [show (cV 0 (b + (cK P.2 + 1) * i) (.ref 1 :: as)) = .ref (b + (cK P.2 + 1) * i) :: cV 0 (b + (cK P.2 + 1) * i) as from rfl, cV_nr hnr], rfl, by rw [z1]; exact I.2.2.2.2.2.2.2.1, by rw [z2]; exact I.2.2.2.2.2.2.2.2.1⟩)
    dsimp only [Pt.U, Pt.locs, Pt.cells, Pt.slots] at X2 l2 y2 n2 stp hQ
    subst l2 y2 n2
    obtain ⟨rfl, N2, R2, F2, k8⟩ := hQ
    rw [k7] at F2
    refine ⟨T2, _, _, _, inv_obj I ho X2 N2 R2 F2 k8 (by rw [z1]; exact hC) (by rw [z2]; simp [usedS, hC]) (by rw [z1]; exact I.2.2.2.2.2.2.2.1) (by rw [z2]; exact I.2.2.2.2.2.2.2.2.1), fun target r => stp.trans ?_⟩
    rw [← ret_st (b' := b + (cK P.2 + 1) * i) hrr] at r
    exact r) g
theorem go_stat (lk : LinkS P (mY M).cls idx M') (pd : parseMethodDescriptor (mY M').desc = some ⟨ps, rt⟩) (hn : as.length = ps.length) (hst : st = as.reverse ++ rest) (hN' : mN M' ≤ mN M ∧ w.2.length ≤ mN M') (hu : usedC w' = usedC w ∧ usedS P.2 w' = usedS P.2 w ∧ w'.2.length = w.2.length) (sm : Small M M' rest)
    (d : decode (mB M) pc = .ok (.invokestatic idx, 3)) (cl : Call P M' as w (rv, w')) (g : Go P M (pc + 3) L (rv.toList ++ rest) w' out) : Go P M pc L st w out :=
  go_ch (fun l Z a0 p e R s1 m args below meth c α b n0 h0 uC uS ok hl T locs cells slots I => by
    obtain ⟨hw, fa, hx, hZ, hown, hc, hml, hret, hnm, hR, hn0, htop, hsz⟩ := ok
    obtain ⟨k1, k2, k3, k5, k6⟩ := lk
    obtain ⟨z1, z2, z3, z4, z5⟩ := sm
    have C := cl l Z a0 [] α b n0 T.heap hw fa hn0 I.2.1 hN'.2 (fun q => by rw [z3] at q; cases q)
    have Bk := backOf (Q := CQ P.2 Z α b n0 T.heap (mN M') w (rv, w')) (R := R) (p := p) (e := e) (below := below) (s := s1) (args := args) (len := 3) (W := (rest.map fun v => v.category).sum) C hZ (hw _ k5) (hw _ k3) (by rw [hR]; exact Nat.le_of_ble_eq_true z4) (by rw [hR]; exact Nat.le_of_ble_eq_true z5)
    obtain ⟨v, vm1, ⟨T2, Lx, kx, nx⟩, -, X2, ⟨L2, hQ, l2, y2, n2⟩, stp⟩ := Jvm.LawKit.callS I.1 hx (y := mY M') hown (mvT hZ (hw _ k1)) (mvT hZ (hw _ k2)) (mvT hZ (hw _ k3)) (mvT hZ (hw _ k5)) k6 Bk (g := mkF m pc (cL α b L) (cV α b st)) rfl (by show (cL α b L).size = c.maxLocals; rw [cL_size, hl, hml]) (argsL := cV α b as) (rest := cV α b rest) (lenOf pd (by simpa [cV] using hn)) (by subst hst; simp [cV])
      (by show 2 * 0 + _ ≤ _; rw [cV_sum]; exact Nat.le_of_eq (Nat.zero_add _)) (hb hc d) (fun _ _ => ⟨rfl, rfl, by rw [z1]; exact I.2.2.2.2.2.2.2.1, by rw [z2]; exact I.2.2.2.2.2.2.2.2.1⟩)
    dsimp only [Pt.U, Pt.locs, Pt.cells, Pt.slots] at X2 l2 y2 n2 stp hQ
    subst l2 y2 n2
    obtain ⟨rfl, N2, R2, F2, k, k8, k9⟩ := hQ
    obtain ⟨X, Rp, Fm, Nl, hs, u1, u2, c1, c2, hN⟩ := I
    rw [z1, z2] at X2
    refine ⟨T2, _, _, _, ⟨X2, R2, Fm.trans (F2.wide (Nat.le_refl _) (by have := Nat.mul_le_mul_left (cK P.2 + 1) hN'.1; omega)), Nl.app N2, ?_, ?_, ?_, c1, c2, by rw [hu.2.2]; exact hN⟩, fun target r => stp target ?_⟩
    · rw [k8]; have := hu.1; simp only at k9; omega
    · rw [hu.1]; exact u1
    · rw [hu.2.1]; exact u2
    · have e1 : cV α b (rv.toList ++ rest) = (rv.map (con α b)).toList ++ cV α b rest := by cases rv <;> rfl
      rw [e1] at r; exact r) g
/-- a constructor, by its contract -/
theorem go_init {k2 : Nat} {s2 : S} (lk : LinkI P (mY M).cls idx M') (pd : parseMethodDescriptor (mY M').desc = some ⟨ps, rt⟩) (hn : as.length = ps.length) (hid : id = (cK P.2 + 1) * i + 1) (hst : st = as.reverse ++ .ref id :: rest) (hnr : as.all nr = true) (ho : w.2[i]? = some (k, s)) (hw' : w' = (w.1, w.2.set i (k2, s2)))
    (hC : k2 = k + (mR M').cells) (hS : usedS P.2 (none, [(k2, s2)]) = usedS P.2 (none, [(k, s)]) + (mR M').slots) (htM : mTop M = true) (hR1 : Nat.ble (usedC w + (mR M').cells) ((mR M).cells + mUC M) = true) (hR2 : Nat.ble (usedS P.2 w + (mR M').slots) ((mR M).slots + mUS M) = true)
    (hq : usedC w = (cK P.2 + 1) * i + usedC (none, [(k, s)]) ∧ usedC (none, [(k, s)]) = mUC M' ∧ usedS P.2 (none, [(k, s)]) = mUS M') (sm : Nat.ble ((mR M').frames + 1) (mR M).frames = true ∧ Nat.ble ((rest.map fun v => v.category).sum + (mL M' + 11) + (mR M').locals) (mR M).locals = true)
    (d : decode (mB M) pc = .ok (.invokespecial idx, 3)) (cl : Call P M' (.ref 1 :: as) (none, [(k, s)]) (none, (none, [(k2, s2)]))) (g : Go P M (pc + 3) L rest w' out) : Go P M pc L st w out :=
  go_ch (fun l Z a0 p e R s1 m args below meth c α b n0 h0 uC uS ok hl T locs cells slots I => by
    subst hw' hid
    obtain ⟨hw, fa, hx, hZ, hown, hc, hml, hret, hnm, hR, hn0, htop, hsz⟩ := ok
    obtain ⟨k1, k4, k5, k6, k7, k9, k10⟩ := lk
    obtain ⟨z4, z5⟩ := sm
    obtain ⟨t1, t2, t3⟩ := htop htM
    have Ic := I.2.2.2.2.2.1
    have Is := I.2.2.2.2.2.2.1
    have b1 : cells + (mR M').cells ≤ R.cells := by have := Nat.le_of_ble_eq_true hR1; rw [hR]; omega
    have b2 : slots + (mR M').slots ≤ R.slots := by have := Nat.le_of_ble_eq_true hR2; rw [hR]; omega
    have C := cl l Z a0 [] 0 (b + (cK P.2 + 1) * i) n0 T.heap hw fa (Nat.le_trans hn0 (Nat.le_add_right _ _)) (rep_obj I.2.1 ho) (by rw [k7]; exact Nat.le_refl _) (fun _ => ⟨by rw [I.2.2.2.2.1]; have := hq.1; omega, hq.2.1, hq.2.2⟩)
    have Bk := backOf (Q := CQ P.2 Z 0 (b + (cK P.2 + 1) * i) n0 T.heap (mN M') (none, [(k, s)]) (none, (none, [(k2, s2)]))) (R := R) (p := p) (e := e) (below := below) (s := s1) (args := args) (len := 3) (W := (rest.map fun v => v.category).sum) C hZ (hw _ k5) (by rw [k6]; exact fa.2.1) (by rw [hR]; exact Nat.le_of_ble_eq_true z4) (by rw [hR]; exact Nat.le_of_ble_eq_true z5)
    have hy : (mY M').cls ≠ "java/lang/invoke/MethodHandle" ∧ (mY M').cls ≠ "java/lang/invoke/VarHandle" := by rw [k6]; exact fa.2.2.2.2.2.2
    have hcd := hw _ k5
    rw [k9] at hcd
    obtain ⟨v, vm1, ⟨T2, Lx, kx, nx⟩, -, X2, ⟨L2, hQ, l2, y2, n2⟩, stp⟩ := I.1.specialBack hx (y := mY M') k10 hown (mvT hZ (hw _ k1)) (mvT hZ (hw _ k4)) (mvT hZ hcd) hy Bk (g := mkF m pc (cL α b L) (cV α b st)) rfl (by show (cL α b L).size = c.maxLocals; rw [cL_size, hl, hml]) (Steps.refl _) (a := b + (cK P.2 + 1) * i) (argsL := as) (rest := cV α b rest) (lenOf pd hn) (cV_call hnr hst)
      (by show 2 * 0 + _ ≤ _; rw [cV_sum]; exact Nat.le_of_eq (Nat.zero_add _)) (hb hc d) (fun _ _ => ⟨by rw [show (cV 0 (b + (cK P.2 + 1) * i) (.ref 1 :: as)) = .ref (b + (cK P.2 + 1) * i) :: cV 0 (b + (cK P.2 + 1) * i) as from rfl, cV_nr hnr], rfl, b1, b2⟩)
    dsimp only [Pt.U, Pt.locs, Pt.cells, Pt.slots] at X2 l2 y2 n2 stp hQ
    subst l2 y2 n2
    obtain ⟨rfl, N2, R2, F2, k8⟩ := hQ
    rw [k7] at F2
    exact ⟨T2, _, _, _, inv_obj I ho X2 N2 R2 F2 k8 hC hS b1 b2, fun target r => stp.trans r⟩) g
/-- Object's constructor -/
theorem go_objinit {a : Nat} (k1 : Jvm.Cond.methodLink (mY M).cls idx Lib.objectInit ∈ P.1) (k2 : Jvm.Cond.instanceMethod Lib.objectInit ∈ P.1) (k3 : Jvm.Cond.code Lib.objectInit ⟨#[0xb1]⟩ 1 none ∈ P.1) (z4 : Nat.ble 1 (mR M).frames = true) (z5 : Nat.ble ((rest.map fun v => v.category).sum + 12) (mR M).locals = true)
    (d : decode (mB M) pc = .ok (.invokespecial idx, 3)) (g : Go P M (pc + 3) L rest w out) : Go P M pc L (.ref (a + 1) :: rest) w out :=
  go_ch (fun l Z a0 p e R s1 m args below meth c α b n0 h0 uC uS ok hl T locs cells slots I => by
    obtain ⟨hw, fa, hx, hZ, hown, hc, hml, hret, hnm, hR, hn0, htop, hsz⟩ := ok
    obtain ⟨X, Rp, Fm, Nl, hs, u1, u2, c1, c2, hN⟩ := I
    obtain ⟨T', X', e', stp⟩ := initO X hx hZ hown (hw _ k1) (hw _ k2) (hw _ k3) rfl (g := mkF m pc (cL α b L) (cV α b (.ref (a + 1) :: rest))) rfl (by show (cL α b L).size = c.maxLocals; rw [cL_size, hl, hml]) (a := b + a) (rest := cV α b rest) rfl (hb hc d) (by rw [hR]; exact Nat.le_of_ble_eq_true z4) (W := (rest.map fun v => v.category).sum) (by show 2 * 0 + _ ≤ _; rw [cV_sum]; exact Nat.le_of_eq (Nat.zero_add _)) (by rw [hR]; exact Nat.le_of_ble_eq_true z5)
    exact ⟨T', locs, cells, slots, ⟨X', by rw [e']; exact Rp, by rw [e']; exact Fm, Nl, by rw [e']; exact hs, u1, u2, c1, c2, hN⟩, fun target r => stp target r⟩) g
/-- a new object of the class -/
theorem go_new {n : Nat} (k1 : Jvm.Cond.classLink (mY M).cls idx (cN P.2) ∈ P.1) (htM : mTop M = true) (hn : w.2.length = n) (hq : usedC w = (cK P.2 + 1) * n) (hw' : w' = (w.1, w.2 ++ [(0, s0)])) (hN' : Nat.blt n (mN M) = true) (hR1 : Nat.ble (usedC w + 1) ((mR M).cells + mUC M) = true) (hR2 : Nat.ble (usedS P.2 w + cF P.2) ((mR M).slots + mUS M) = true)
    (d : decode (mB M) pc = .ok (.new idx, 3)) (hid : id = (cK P.2 + 1) * n + 1) (g : Go P M (pc + 3) L (.ref id :: st) w' out) : Go P M pc L st w out :=
  go_ch (fun l Z a0 p e R s1 m args below meth c α b n0 h0 uC uS ok hl T locs cells slots I => by
    subst hw' hid
    obtain ⟨hw, fa, hx, hZ, hown, hc, hml, hret, hnm, hR, hn0, htop, hsz⟩ := ok
    obtain ⟨X, Rp, Fm, Nl, hs, u1, u2, c1, c2, hN⟩ := I
    obtain ⟨t1, t2, t3⟩ := htop htM
    have b1 : cells + 1 ≤ R.cells := by have := Nat.le_of_ble_eq_true hR1; rw [hR]; omega
    have b2 : slots + cF P.2 ≤ R.slots := by have := Nat.le_of_ble_eq_true hR2; rw [hR]; omega
    obtain ⟨T2, h2, X2, e2, E2, A2, D2, -, st2⟩ := newO X hx hZ hown (hw _ k1) fa.1 fa.2.1 rfl (g := mkF m pc (cL α b L) (cV α b st)) rfl (hb hc d) b1 b2
    have ha : T.heap.size = b + (cK P.2 + 1) * n := by rw [hs, t1]; omega
    rw [ha] at A2 D2 st2
    have sz2 : T2.heap.size = T.heap.size + 1 := by
      have q1 := X2.heapSize
      have q2 : b + (cK P.2 + 1) * n < h2.size := A2.lt
      rw [e2] at q1 ⊢
      omega
    refine ⟨T2, locs, _, _, ⟨X2, ?_, by rw [e2]; exact Fm.ext E2, Nl, by rw [sz2, hs]; omega, ?_, ?_, b1, b2, ?_⟩, fun target r => st2 target ?_⟩
    · rw [e2]
      refine ⟨fun l1 h1 => (Rp.ext E2).1 l1 h1, fun j oj hj => ?_⟩
      by_cases q : j < w.2.length
      · rw [show (w.1, w.2 ++ [(0, s0)]).2 = w.2 ++ [(0, s0)] from rfl, List.getElem?_append_left q] at hj
        exact (Rp.ext E2).2 j oj hj
      · have hj' := get_lt hj
        simp at hj'
        have ej : j = n := by omega
        subst ej
        rw [show (w.1, w.2 ++ [(0, s0)]).2 = w.2 ++ [(0, s0)] from rfl, List.getElem?_append_right (by omega)] at hj
        rw [hn] at hj; simp at hj; subst hj
        refine ⟨A2, fun f x hx => ?_, fun q x hx => ?_, fun q x _ hq => absurd hq (Nat.not_lt_zero _)⟩
        · have := D2 (fa.2.2.1 f x hx).1 (fa.2.2.1 f x hx).2
          rw [fa.2.2.2.2.2.1 f x hx] at this
          exact this
        · have := D2 (fa.2.2.2.1 q x hx).1 (fa.2.2.2.1 q x hx).2
          rw [if_neg (Nat.not_lt_zero _)]
          exact this
    · simp [usedC] at u1 ⊢; omega
    · simp [usedS] at u2 ⊢; omega
    · simp; have : n < mN M := by simpa [Nat.blt_eq] using hN'
      omega
    · exact r) g
/-- a new array, laid into its field at once -/
theorem rep_new {Z : State} {a0 : Array Value} {ci : CI} {h h1 h2 : Heap} {b : Nat} {s s' : S} {k : Nat} {nm ds : String} {ty : FieldType} {cap : Nat} {cl : Cell} (fa : Facts Z a0 ci) (F : Rep1 Z ci h b (k, s)) (hf : (cA ci)[k]? = some (nm, ds, ty, cap)) (E : Ext h h1) (A : Arr Z h1 (b + 1 + k) cl ty) (ec : cl.slots = (arV ty s' k).toArray)
    (Wt : Wr h1 h2 b (Jvm.RoadKit.slotOf Z (cN ci) nm ds) (.ref (b + 1 + k))) (ho : ∀ q' x, (cA ci)[q']? = some x → q' ≠ k → arV x.2.2.1 s' q' = arV x.2.2.1 s q') (ha : gI s' = gI s) (hbb : gL s' = gL s) : Rep1 Z ci h2 b (k + 1, s') := by
  obtain ⟨f1, f2, f3, f4⟩ := F
  obtain ⟨-, -, g1, g2, g3, -⟩ := fa
  have lt := get_lt hf
  refine ⟨(f1.ext E).wr Wt, fun f x hx => ?_, fun q x hx => ?_, fun q x hx hq => ?_⟩
  · have e : scV x.2.2 s' f = scV x.2.2 s f := by unfold scV; split <;> simp [ha, hbb]
    have lt' := get_lt hx
    show Fld Z h2 b (cN ci) x.1 x.2.1 (scV x.2.2 s' f)
    rw [e]
    refine ((f2 f x hx).ext E).other Wt (Or.inr ?_)
    refine slot_ne (g1 f x hx).1 (g2 k _ hf).1 ?_ (g1 f x hx).2 (g2 k _ hf).2
    intro en
    have n1 : ((cS ci).map (fun x => x.1) ++ (cA ci).map (fun x => x.1))[f]? = some x.1 := by rw [List.getElem?_append_left (by simpa using lt')]; simp [hx]
    have n2 : ((cS ci).map (fun x => x.1) ++ (cA ci).map (fun x => x.1))[(cS ci).length + k]? = some nm := by rw [List.getElem?_append_right (by simp)]; simp [hf]
    rw [en] at n1
    obtain ⟨i1, j1⟩ := List.getElem?_eq_some_iff.mp n1
    obtain ⟨i2, j2⟩ := List.getElem?_eq_some_iff.mp n2
    have := (List.getElem_inj g3).mp (j1.trans j2.symm)
    omega
  · by_cases e : q = k
    · subst e
      cases hf.symm.trans hx
      rw [if_pos (show q < (q + 1, s').1 from Nat.lt_succ_self q)]
      exact ((f3 q _ hf).ext E).same Wt
    · have lt' := get_lt hx
      have e2 : (if q < (k + 1, s').1 then Value.ref (b + 1 + q) else Value.null) = (if q < (k, s).1 then Value.ref (b + 1 + q) else Value.null) := by
        show (if q < k + 1 then _ else _) = (if q < k then _ else _)
        by_cases q1 : q < k
        · rw [if_pos q1, if_pos (by omega)]
        · rw [if_neg q1, if_neg (by omega)]
      rw [e2]
      refine ((f3 q x hx).ext E).other Wt (Or.inr ?_)
      refine slot_ne (g2 q x hx).1 (g2 k _ hf).1 ?_ (g2 q x hx).2 (g2 k _ hf).2
      intro en
      have n1 : ((cS ci).map (fun x => x.1) ++ (cA ci).map (fun x => x.1))[(cS ci).length + q]? = some x.1 := by rw [List.getElem?_append_right (by simp)]; simp [hx]
      have n2 : ((cS ci).map (fun x => x.1) ++ (cA ci).map (fun x => x.1))[(cS ci).length + k]? = some nm := by rw [List.getElem?_append_right (by simp)]; simp [hf]
      rw [en] at n1
      obtain ⟨i1, j1⟩ := List.getElem?_eq_some_iff.mp n1
      obtain ⟨i2, j2⟩ := List.getElem?_eq_some_iff.mp n2
      have := (List.getElem_inj g3).mp (j1.trans j2.symm)
      omega
  · by_cases e : q = k
    · subst e
      cases hf.symm.trans hx
      exact ⟨cl, A.other Wt (nq (by omega)), ec⟩
    · obtain ⟨c, B, eb⟩ := f4 q x hx (by have : q < k + 1 := hq; show q < k; omega)
      refine ⟨c, (B.ext E).other Wt (nq (by omega)), eb.trans ?_⟩
      rw [ho q x hx e]
theorem go_newV {aty : ArrayType} {ty : FieldType} {nm ds : String} {cap : Nat} {n : Int32} {s' : S} (hty : newarray.typeOf aty = ty) (ha : (cA P.2)[k]? = some (nm, ds, ty, cap)) (k0 : Jvm.Cond.arrayClass ty ∈ P.1) (k1 : Jvm.Cond.fieldLink (cN P.2) idx (cN P.2) nm ds ∈ P.1) (hM : (mY M).cls = cN P.2)
    (hlays : Jvm.Cond.lays (cN P.2) (cN P.2) nm ds ∈ P.1 ∨ (Jvm.Cond.laysFinal (cN P.2) (cN P.2) nm ds ∈ P.1 ∧ (mY M).name = "<init>")) (htM : mTop M = true) (hp : 0 < mN M) (hn : ¬ n < 0) (hcap : Nat.ble n.toNatClampNeg cap = true) (hbig : Nat.ble (cap * 8) 536870912 = true)
    (hR1 : Nat.ble (1 + k + 1) ((mR M).cells + mUC M) = true) (hR2 : Nat.ble (usedS P.2 (none, [(k, s)]) + cap) ((mR M).slots + mUS M) = true)
    (hv : arV ty s' k = List.replicate n.toNatClampNeg (defaultValue ty)) (hoth : ∀ q' x, (cA P.2)[q']? = some x → q' ≠ k → arV x.2.2.1 s' q' = arV x.2.2.1 s q') (hgI : gI s' = gI s) (hgL : gL s' = gL s)
    (d : decode (mB M) pc = .ok (.newarray aty, 2)) (d2 : decode (mB M) (pc + 2) = .ok (.putfield idx, 3)) (g : Go P M (pc + 5) L st (none, [(k + 1, s')]) out) : Go P M pc L (.int n :: .ref 1 :: st) (none, [(k, s)]) out :=
  go_ch (fun l Z a0 p e R s1 m args below meth c α b n0 h0 uC uS ok hl T locs cells slots I => by
    obtain ⟨hw, fa, hx, hZ, hown, hc, hml, hret, hnm, hR, hn0, htop, hsz⟩ := ok
    obtain ⟨X, Rp, Fm, Nl, hs, u1, u2, c1, c2, hN⟩ := I
    obtain ⟨t1, t2, t3⟩ := htop htM
    have u1' : cells + uC = 1 + k := by simpa [usedC] using u1
    have b1 : cells + 1 ≤ R.cells := by have := Nat.le_of_ble_eq_true hR1; rw [hR]; omega
    have b2 : slots + cap ≤ R.slots := by have := Nat.le_of_ble_eq_true hR2; rw [hR]; omega
    subst hty
    obtain ⟨T2, h2, cA2, X2, e2, E2, A2, st2⟩ := newP X hx hZ (hw _ k0) rfl (g := mkF m pc (cL α b L) (.int n :: .ref b :: cV α b st)) rfl (hb hc d) rfl hn (Nat.le_of_ble_eq_true hcap) (Nat.le_of_ble_eq_true hbig) b1 b2
    have hadr : T.heap.size = b + 1 + k := by rw [hs, t1]; omega
    rw [hadr] at A2 st2
    have sz2 : T2.heap.size = T.heap.size + 1 := by
      have q1 := X2.heapSize
      have q2 : b + 1 + k < h2.size := A2.lt
      rw [e2] at q1 ⊢
      omega
    have Rp1 := rep_one Rp
    have Fd := Rp1.2.2.1 k _ ha
    rw [if_neg (show ¬ k < (k, s).1 from Nat.lt_irrefl k)] at Fd
    rw [hM] at hown
    obtain ⟨T3, h3, X3, e3, Wt, st3⟩ := putF X2 hx hZ hown (host := "") (Or.inl (hw _ k1)) Via.refl e2 (Fd.ext E2) (Rp1.1.ext E2) (hlays.imp (fun q => hw _ q) (fun q => ⟨hw _ q.1, rfl, hnm.trans q.2⟩)) fa.1 (fa.2.2.2.1 k _ ha).2 (v := .ref (b + 1 + k)) rfl rfl (g := mkF m (pc + 2) (cL α b L) (.ref (b + 1 + k) :: .ref b :: cV α b st)) rfl rfl (hb hc d2)
    refine ⟨T3, _, _, _, ⟨X3, rep_mk (by rw [e3]; exact rep_new fa Rp1 ha E2 A2 (by rw [hv]; simp [newA]) Wt hoth hgI hgL), by rw [e3]; exact (Fm.ext E2).wr Wt (Nat.le_refl _) (by have := Nat.mul_le_mul_left (cK P.2 + 1) hp; omega), Fr.snoc X3 Nl hn0, by rw [e3, Wt.size, ← e2, sz2, hs]; omega, by simp [usedC]; omega, ?_, b1, b2, hN⟩, fun target r => st2 target (st3 target r)⟩
    have hk := get_lt ha
    simp only [usedS, List.map_cons, List.map_nil, List.sum_cons, List.sum_nil] at u2 ⊢
    rw [List.take_add_one, List.map_append, List.sum_append, ha]
    simp [List.map_take] at u2 ⊢; omega) g
theorem go_newI {aty : ArrayType} {ty : FieldType} {nm ds : String} {cap : Nat} {n : Int32} (hty : newarray.typeOf aty = ty) (hi : ty = .int ∨ ty = .boolean ∨ ty = .byte) (ha : (cA P.2)[k]? = some (nm, ds, ty, cap)) (k0 : Jvm.Cond.arrayClass ty ∈ P.1) (k1 : Jvm.Cond.fieldLink (cN P.2) idx (cN P.2) nm ds ∈ P.1) (hM : (mY M).cls = cN P.2)
    (hlays : Jvm.Cond.lays (cN P.2) (cN P.2) nm ds ∈ P.1 ∨ (Jvm.Cond.laysFinal (cN P.2) (cN P.2) nm ds ∈ P.1 ∧ (mY M).name = "<init>")) (htM : mTop M = true) (hp : 0 < mN M) (hn : ¬ n < 0) (hcap : Nat.ble n.toNatClampNeg cap = true) (hbig : Nat.ble (cap * 8) 536870912 = true)
    (hR1 : Nat.ble (1 + k + 1) ((mR M).cells + mUC M) = true) (hR2 : Nat.ble (usedS P.2 (none, [(k, s)]) + cap) ((mR M).slots + mUS M) = true)
    (d : decode (mB M) pc = .ok (.newarray aty, 2)) (d2 : decode (mB M) (pc + 2) = .ok (.putfield idx, 3)) (g : Go P M (pc + 5) L st (none, [(k + 1, sA s k (rep n.toNatClampNeg 0))]) out) : Go P M pc L (.int n :: .ref 1 :: st) (none, [(k, s)]) out :=
  go_newV hty ha k0 k1 hM hlays htM hp hn hcap hbig hR1 hR2 (by rcases hi with rfl | rfl | rfl <;> simp [arV, gA_sA, defaultValue, rep]) (fun q' x _ h => arV_sA s k _ _ q' h) rfl rfl d d2 g
theorem go_newJ {nm ds : String} {cap : Nat} {n : Int32} (ha : (cA P.2)[k]? = some (nm, ds, .long, cap)) (k0 : Jvm.Cond.arrayClass .long ∈ P.1) (k1 : Jvm.Cond.fieldLink (cN P.2) idx (cN P.2) nm ds ∈ P.1) (hM : (mY M).cls = cN P.2)
    (hlays : Jvm.Cond.lays (cN P.2) (cN P.2) nm ds ∈ P.1 ∨ (Jvm.Cond.laysFinal (cN P.2) (cN P.2) nm ds ∈ P.1 ∧ (mY M).name = "<init>")) (htM : mTop M = true) (hp : 0 < mN M) (hn : ¬ n < 0) (hcap : Nat.ble n.toNatClampNeg cap = true) (hbig : Nat.ble (cap * 8) 536870912 = true)
    (hR1 : Nat.ble (1 + k + 1) ((mR M).cells + mUC M) = true) (hR2 : Nat.ble (usedS P.2 (none, [(k, s)]) + cap) ((mR M).slots + mUS M) = true)
    (d : decode (mB M) pc = .ok (.newarray .long, 2)) (d2 : decode (mB M) (pc + 2) = .ok (.putfield idx, 3)) (g : Go P M (pc + 5) L st (none, [(k + 1, sB s k (rep n.toNatClampNeg 0))]) out) : Go P M pc L (.int n :: .ref 1 :: st) (none, [(k, s)]) out :=
  go_newV (aty := .long) (ty := .long) rfl ha k0 k1 hM hlays htM hp hn hcap hbig hR1 hR2 (by simp [arV, gB_sB, defaultValue, rep]) (fun q' x _ h => arV_sB s k _ _ q' h) rfl rfl d d2 g
end Rules
/-! ## the start -/
theorem tsw_out {x : Int32} {lo hi : Int} (h1 : -2147483648 ≤ lo) (h2 : hi < 2147483648) (ks : List Int32) (hk : ks = ((List.range (hi - lo + 1).toNat).map fun (j : Nat) => Int32.ofInt (lo + (j : Int)))) (hx : ∀ k ∈ ks, x ≠ k) : x.toInt < lo ∨ x.toInt > hi := by
  by_cases q1 : x.toInt < lo
  · exact Or.inl q1
  by_cases q2 : x.toInt > hi
  · exact Or.inr q2
  refine absurd rfl (hx x ?_)
  rw [hk, List.mem_map]
  refine ⟨(x.toInt - lo).toNat, List.mem_range.mpr (by omega), ?_⟩
  rw [show lo + (((x.toInt - lo).toNat : Nat) : Int) = x.toInt by omega]
  exact Int32.ofInt_toInt x
theorem list_of_array {V : Type} (a : Array V) (f : Nat → V) (h : ∀ j, j < a.size → a[j]? = some (f j)) : a = ((List.range a.size).map f).toArray := by
  apply Array.ext'
  apply List.ext_getElem?
  intro j
  by_cases q : j < a.size
  · simpa [q] using h j q
  · simp [q]
theorem small_len {n : Nat} {k : Int32} (h : n < 2 ^ 31) (q : n.toInt32 ≤ k) : (n : Int) ≤ k.toInt := by
  have e : (Int32.ofNat n).toInt = n := Int32.toInt_ofNat_of_lt h
  have := Int32.le_iff_toInt_le.mp q
  rwa [show n.toInt32.toInt = n from e] at this
theorem script_of {s : State} {args : Array Value} {t : Term} {k : Int32} (hf : Fit s) (h1 : (Cond.arrayOf t .int).value args s none s [] = some true) (h2 : (Cond.le (.length t) (.int k)).value args s none s [] = some true) :
    ∃ (a : Nat) (l : List Int32), t.eval args s none [] s = some (.ref a) ∧ Ar s s.heap a .int (l.map .int) ∧ a < s.heap.size ∧ (l.length : Int) ≤ k.toInt := by
  obtain ⟨a, ev⟩ := arr_v h1
  obtain ⟨c, A⟩ := Arr.start ev h1
  obtain ⟨x, y, ex, ey, -, -⟩ := cmp_v (Or.inr (Or.inr h2))
  obtain ⟨b, cell, e1, e2, e3, ev2⟩ := Jvm.Lib.length_spec ex
  have ea : b = a := by rw [ev] at e1; cases e1; rfl
  have ec : cell = c := by
    have := Arr.fin (Vm.Alike.refl _) A
    rw [ea, this] at e2; cases e2; rfl
  subst ea ec ev2
  obtain ⟨n, en, S⟩ := Scr.start hf A e3
  have hle : cell.slots.size.toInt32 ≤ k := by
    have ek : (Term.int k).eval args s none [] s = some (.int k) := rfl
    simp only [Cond.value, ex, ek] at h2
    simpa using h2
  refine ⟨b, (List.range cell.slots.size).map fun j => atv cell (Int32.ofNat j), ev, ⟨cell, A, ?_⟩, A.lt, ?_⟩
  · rw [List.map_map]
    refine list_of_array cell.slots _ fun j hj => ?_
    have e4 : (Int32.ofNat j).toNatClampNeg = j := by
      have : (Int32.ofNat j).toInt = j := Int32.toInt_ofNat_of_lt (by omega)
      simp [Int32.toNatClampNeg, this]
    have e5 : ¬ (Int32.ofNat j < 0) := by
      rw [Int32.lt_iff_toInt_lt, Int32.toInt_ofNat_of_lt (by omega)]; simp
    have := S.2.2.2 (Int32.ofNat j) (by rw [e4]; rintro (q | q); exact e5 q; omega)
    rw [e4] at this
    exact this
  · simpa using small_len e3 hle
theorem repW_none (Z : State) (ci : CI) (α b : Nat) (h : Heap) : RepW Z ci α b (none, []) h := ⟨fun l hl => (by cases hl), fun i o ho => (by simp at ho)⟩
theorem repW_some {Z : State} {ci : CI} {α b : Nat} {h : Heap} {l : List Int32} (A : Ar Z h α .int (l.map .int)) (q : α < b) : RepW Z ci α b (some l, []) h := ⟨fun l' hl => by cases hl; exact ⟨A, q⟩, fun i o ho => by simp at ho⟩
end Jvm.AM
/-! ## plain lemmas on ints, arrays and updates -/
namespace Jvm.PL
open Jvm.AM
theorem ofNat_toInt {k : Nat} (h : k < 2147483648) : (Int32.ofNat k).toInt = k := Int32.toInt_ofNat_of_lt h
theorem ofNat_lt {k m : Nat} (hk : k < 2147483648) (hm : m < 2147483648) : Int32.ofNat k < Int32.ofNat m ↔ k < m := by
  rw [Int32.lt_iff_toInt_lt, ofNat_toInt hk, ofNat_toInt hm]; omega
theorem lt_lit {k m : Nat} (hk : k < 2147483648) (hm : m < 2147483648 := by decide) : Int32.ofNat k < (OfNat.ofNat m : Int32) ↔ k < m := ofNat_lt hk hm
theorem ofNat_succ (k : Nat) : Int32.ofNat k + 1 = Int32.ofNat (k + 1) := by
  rw [Int32.ofNat_add]; rfl
theorem ofNat_nonneg {k : Nat} (hk : k < 2147483648) : ¬ Int32.ofNat k < 0 := by rw [Int32.lt_iff_toInt_lt, ofNat_toInt hk]; simp
theorem ofNat_clamp {k : Nat} (hk : k < 2147483648) : (Int32.ofNat k).toNatClampNeg = k := by simp [Int32.toNatClampNeg, ofNat_toInt hk]
theorem ix_ofNat {A : Type} (l : List A) {k : Nat} (hk : k < 2147483648) : ix l (Int32.ofNat k) = l[k]? := by
  unfold ix; rw [if_neg (ofNat_nonneg hk), ofNat_clamp hk]
theorem st_ofNat {A : Type} (l : List A) (x : A) {k : Nat} (hk : k < 2147483648) (hl : k < l.length) : Jvm.AM.st l (Int32.ofNat k) x = some (l.set k x) := by
  unfold Jvm.AM.st; rw [if_neg (ofNat_nonneg hk), ofNat_clamp hk, if_pos hl]
theorem toInt_clamp {v : Int32} (h : ¬ v < 0) : (v.toNatClampNeg : Int) = v.toInt := by
  rw [Int32.lt_iff_toInt_lt] at h
  simp only [Int32.toNatClampNeg]
  have : (0 : Int32).toInt = 0 := rfl
  omega
theorem eq_ofNat {v : Int32} (h : ¬ v < 0) : v = Int32.ofNat v.toNatClampNeg ∧ v.toNatClampNeg < 2147483648 := by
  have h1 := toInt_clamp h
  have h2 := v.toInt_lt
  have h3 : v.toNatClampNeg < 2147483648 := by omega
  refine ⟨Int32.toInt_inj.mp ?_, h3⟩
  rw [ofNat_toInt h3]; exact h1.symm
theorem ix_rep {A : Type} {v : Int32} {n : Nat} {x : A} (h0 : ¬ v < 0) (h1 : v < Int32.ofNat n) (hn : n < 2147483648) : ix (rep n x) v = some x := by
  obtain ⟨e, hl⟩ := eq_ofNat h0
  rw [e] at h1 ⊢
  have h2 := (ofNat_lt hl hn).mp h1
  rw [ix_ofNat _ hl, rep_get, if_pos h2]
theorem ix_nat {A : Type} (l : List A) {v : Int32} (h0 : ¬ v < 0) : ix l v = l[v.toNatClampNeg]? := by unfold ix; rw [if_neg h0]
theorem st_nat {A : Type} (l : List A) {v : Int32} {x : A} (h0 : ¬ v < 0) (hl : v.toNatClampNeg < l.length) : Jvm.AM.st l v x = some (l.set v.toNatClampNeg x) := by
  unfold Jvm.AM.st; rw [if_neg h0, if_pos hl]
theorem clamp_lt {v : Int32} {n : Nat} (h0 : ¬ v < 0) (h1 : v < Int32.ofNat n) (hn : n < 2147483648) : v.toNatClampNeg < n := by
  obtain ⟨e, hl⟩ := eq_ofNat h0
  rw [e] at h1
  exact (ofNat_lt hl hn).mp h1
theorem clamp_inj {v w : Int32} (h0 : ¬ v < 0) (h1 : ¬ w < 0) : v.toNatClampNeg = w.toNatClampNeg ↔ v = w := by
  constructor
  · intro h
    have a := toInt_clamp h0
    have b := toInt_clamp h1
    exact Int32.toInt_inj.mp (by omega)
  · intro h; rw [h]
end Jvm.PL
namespace Jvm.PL
open Jvm.AM
/-- all but the named fields and arrays is as it was -/
def Fx (I L A B : List Nat) (s s' : S) : Prop := (∀ f, f ∉ I → gI s' f = gI s f) ∧ (∀ f, f ∉ L → gL s' f = gL s f) ∧ (∀ f, f ∉ A → gA s' f = gA s f) ∧ (∀ f, f ∉ B → gB s' f = gB s f)
theorem Fx.refl (I L A B : List Nat) (s : S) : Fx I L A B s s := ⟨fun _ _ => rfl, fun _ _ => rfl, fun _ _ => rfl, fun _ _ => rfl⟩
theorem Fx.trans {I L A B : List Nat} {s t u : S} (h : Fx I L A B s t) (k : Fx I L A B t u) : Fx I L A B s u :=
  ⟨fun f q => (k.1 f q).trans (h.1 f q), fun f q => (k.2.1 f q).trans (h.2.1 f q), fun f q => (k.2.2.1 f q).trans (h.2.2.1 f q), fun f q => (k.2.2.2 f q).trans (h.2.2.2 f q)⟩
theorem Fx.mono {I L A B I' L' A' B' : List Nat} {s t : S} (h : Fx I L A B s t) (a : ∀ f ∈ I, f ∈ I') (b : ∀ f ∈ L, f ∈ L') (c : ∀ f ∈ A, f ∈ A') (d : ∀ f ∈ B, f ∈ B') : Fx I' L' A' B' s t :=
  ⟨fun f q => h.1 f fun x => q (a f x), fun f q => h.2.1 f fun x => q (b f x), fun f q => h.2.2.1 f fun x => q (c f x), fun f q => h.2.2.2 f fun x => q (d f x)⟩
theorem Fx.sA {I L A B : List Nat} {s t : S} {f : Nat} {l : List Int32} (h : Fx I L A B s t) (hf : f ∈ A) : Fx I L A B s (Jvm.AM.sA t f l) :=
  ⟨fun g q => (gI_sA _ _ _ _).trans (h.1 g q), fun g q => (gL_sA _ _ _ _).trans (h.2.1 g q), fun g q => by rw [gA_sA, if_neg (fun e : g = f => q (e ▸ hf))]; exact h.2.2.1 g q, fun g q => (gB_sA _ _ _ _).trans (h.2.2.2 g q)⟩
theorem Fx.sI {I L A B : List Nat} {s t : S} {f : Nat} {l : Int32} (h : Fx I L A B s t) (hf : f ∈ I) : Fx I L A B s (Jvm.AM.sI t f l) :=
  ⟨fun g q => by rw [gI_sI, if_neg (fun e : g = f => q (e ▸ hf))]; exact h.1 g q, fun g q => (gL_sI _ _ _ _).trans (h.2.1 g q), fun g q => (gA_sI _ _ _ _).trans (h.2.2.1 g q), fun g q => (gB_sI _ _ _ _).trans (h.2.2.2 g q)⟩
theorem Fx.sL {I L A B : List Nat} {s t : S} {f : Nat} {l : Int64} (h : Fx I L A B s t) (hf : f ∈ L) : Fx I L A B s (Jvm.AM.sL t f l) :=
  ⟨fun g q => (gI_sL _ _ _ _).trans (h.1 g q), fun g q => by rw [gL_sL, if_neg (fun e : g = f => q (e ▸ hf))]; exact h.2.1 g q, fun g q => (gA_sL _ _ _ _).trans (h.2.2.1 g q), fun g q => (gB_sL _ _ _ _).trans (h.2.2.2 g q)⟩
theorem Fx.sB {I L A B : List Nat} {s t : S} {f : Nat} {l : List Int64} (h : Fx I L A B s t) (hf : f ∈ B) : Fx I L A B s (Jvm.AM.sB t f l) :=
  ⟨fun g q => (gI_sB _ _ _ _).trans (h.1 g q), fun g q => (gL_sB _ _ _ _).trans (h.2.1 g q), fun g q => (gA_sB _ _ _ _).trans (h.2.2.1 g q), fun g q => by rw [gB_sB, if_neg (fun e : g = f => q (e ▸ hf))]; exact h.2.2.2 g q⟩
theorem ofNat_add' (a b : Nat) : Int32.ofNat a + Int32.ofNat b = Int32.ofNat (a + b) := (Int32.ofNat_add a b).symm
/-- the first k entries are x -/
def Upto {A : Type} (l : List A) (k : Nat) (x : A) : Prop := ∀ i, i < k → l[i]? = some x
theorem Upto.zero {A : Type} (l : List A) (x : A) : Upto l 0 x := fun _ h => absurd h (Nat.not_lt_zero _)
theorem Upto.set {A : Type} {l : List A} {k : Nat} {x : A} (h : Upto l k x) (hk : k < l.length) : Upto (l.set k x) (k + 1) x := fun i hi => by
  by_cases e : i = k
  · subst e; simp [hk]
  · rw [List.getElem?_set_ne (Ne.symm e)]; exact h i (by omega)
theorem Upto.all {A : Type} {l : List A} {k : Nat} {x : A} (h : Upto l k x) (hk : l.length = k) : l = rep k x := by
  apply List.ext_getElem?
  intro i
  rw [rep_get]
  by_cases q : i < k
  · rw [if_pos q]; exact h i q
  · rw [if_neg q, List.getElem?_eq_none (by omega)]
end Jvm.PL
namespace Jvm.PL
open Jvm.AM
/-- a loop by its invariant; m: the turns that are left -/
theorem run_loop {A B : Type} (L : Nat → A → B) (F : A → B) (I : Nat → A → Prop) (h : ∀ n m a, I (m + 1) a → ∃ a', L (n + 1) a = L n a' ∧ I m a') (h0 : ∀ n a, I 0 a → L (n + 1) a = F a) : ∀ m n a, m < n → I m a → ∃ a', L n a = F a' ∧ I 0 a'
  | 0, n + 1, a, _, i => ⟨a, h0 n a i, i⟩
  | m + 1, n + 1, a, q, i => by
    obtain ⟨a', e, i'⟩ := h n m a i
    obtain ⟨a'', e', i''⟩ := run_loop L F I h h0 m n a' (by omega) i'
    exact ⟨a'', e.trans e', i''⟩
/-- 'for k in 0 .. N' -/
theorem run_for {B : Type} (L : Nat → Int32 → S → B) (F : S → B) (N : Nat) (I : Nat → S → Prop) (h : ∀ n k s, k < N → I k s → ∃ s', L (n + 1) (Int32.ofNat k) s = L n (Int32.ofNat (k + 1)) s' ∧ I (k + 1) s') (h0 : ∀ n s, I N s → L (n + 1) (Int32.ofNat N) s = F s) (n : Nat) (s : S) (hn : N < n) (i : I 0 s) :
    ∃ s', L n (Int32.ofNat 0) s = F s' ∧ I N s' := by
  obtain ⟨a, e, k, hk, ea, ia⟩ := run_loop (fun n (a : Int32 × S) => L n a.1 a.2) (fun a => F a.2) (fun m a => ∃ k, k + m = N ∧ a.1 = Int32.ofNat k ∧ I k a.2)
    (fun n m a ⟨k, h1, h2, h3⟩ => by
      obtain ⟨s', e, i'⟩ := h n k a.2 (by omega) h3
      exact ⟨(Int32.ofNat (k + 1), s'), by show L (n + 1) a.1 a.2 = _; rw [h2]; exact e, k + 1, by omega, rfl, i'⟩)
    (fun n a ⟨k, h1, h2, h3⟩ => by
      have : k = N := by omega
      subst this
      show L (n + 1) a.1 a.2 = _; rw [h2]; exact h0 n a.2 h3) N n (Int32.ofNat 0, s) hn ⟨0, by omega, rfl, i⟩
  have : k = N := by omega
  subst this
  exact ⟨a.2, e, ia⟩
end Jvm.PL
namespace Jvm.PL
open Jvm.AM
/-- the end test of a loop over a script -/
theorem len_lt {n k c : Nat} (hn : n ≤ 100000) (hk : k ≤ 100000) (hc : c ≤ 100000) : (n.toInt32 - Int32.ofNat c) < Int32.ofNat k ↔ n < k + c := by
  rw [Int32.lt_iff_toInt_lt, Int32.toInt_sub, show n.toInt32 = Int32.ofNat n from rfl, ofNat_toInt (by omega), ofNat_toInt (by omega), ofNat_toInt (by omega)]
  have : ((n : Int) - c).bmod (2 ^ 32) = n - c := by
    rw [Int.bmod_eq_of_le] <;> omega
  rw [this]; omega
/-- a loop over a script, c entries a turn: it ends in what every way out says -/
theorem run_script {A B : Type} (L : Nat → Int32 → A → B) (c len : Nat) (hc : 0 < c) (P : B → Prop) (I : Nat → A → Prop) (h : ∀ n k a, k + c ≤ len → I k a → P (L (n + 1) (Int32.ofNat k) a) ∨ ∃ a', L (n + 1) (Int32.ofNat k) a = L n (Int32.ofNat (k + c)) a' ∧ I (k + c) a') (h0 : ∀ n k a, k ≤ len → len < k + c → I k a → P (L (n + 1) (Int32.ofNat k) a)) : ∀ n k a, len < n + k → k ≤ len → I k a → P (L n (Int32.ofNat k) a)
  | 0, k, a, hn, hk, i => by omega
  | n + 1, k, a, hn, hk, i => by
    by_cases q : k + c ≤ len
    · rcases h n k a q i with p | ⟨a', e, i'⟩
      · exact p
      · rw [e]; exact run_script L c len hc P I h h0 n (k + c) a' (by omega) q i'
    · exact h0 n k a hk (by omega) i
theorem ix_some {A : Type} (l : List A) {k : Nat} (hk : k < 2147483648) (hl : k < l.length) : ∃ x, ix l (Int32.ofNat k) = some x := ⟨l[k], by rw [ix_ofNat _ hk, List.getElem?_eq_getElem hl]⟩
theorem ofNat_lit (a b : Nat) : Int32.ofNat a + (OfNat.ofNat b : Int32) = Int32.ofNat (a + b) := ofNat_add' a b
end Jvm.PL
namespace Jvm.PL
open Jvm.AM
theorem upd_same {A : Type} (g : Nat → A) (f : Nat) (a b : A) : aupd (aupd g f a) f b = aupd g f b := by
  funext x; unfold aupd; by_cases q : x = f <;> simp [q]
theorem upd_comm {A : Type} (g : Nat → A) {f h : Nat} (n : f ≠ h) (a b : A) : aupd (aupd g f a) h b = aupd (aupd g h b) f a := by
  funext x; unfold aupd
  by_cases q : x = f
  · have : ¬ f = h := n
    simp [q, this]
  · by_cases r : x = h
    · rw [if_pos r, if_neg q, if_pos r]
    · rw [if_neg r, if_neg q, if_neg q, if_neg r]
theorem sA_same (s : S) (f : Nat) (a b : List Int32) : Jvm.AM.sA (Jvm.AM.sA s f a) f b = Jvm.AM.sA s f b := by
  unfold Jvm.AM.sA; simp only [upd_same]
theorem sA_comm (s : S) {f h : Nat} (n : f ≠ h) (a b : List Int32) : Jvm.AM.sA (Jvm.AM.sA s f a) h b = Jvm.AM.sA (Jvm.AM.sA s h b) f a := by
  unfold Jvm.AM.sA; simp only; rw [upd_comm _ n]
end Jvm.PL
/-! ## rows of bits -/
namespace Jvm.PL
open Jvm.AM Jvm.Free
def bt (w : Int32) (y : Nat) : Bool := w.toBitVec.getLsbD y
theorem bt_zero (y : Nat) : bt 0 y = false := by simp [bt]
theorem bt_or (a b : Int32) (y : Nat) : bt (a ||| b) y = (bt a y || bt b y) := by simp [bt]
theorem bt_and (a b : Int32) (y : Nat) : bt (a &&& b) y = (bt a y && bt b y) := by simp [bt]
theorem bt_ge (w : Int32) {y : Nat} (h : 32 ≤ y) : bt w y = false := by unfold bt; exact BitVec.getLsbD_of_ge _ _ h
theorem bt_m1 {y : Nat} (h : y < 32) : bt (-1) y = true := by
  unfold bt
  rw [show (-1 : Int32).toBitVec = BitVec.allOnes 32 from rfl, BitVec.getLsbD_allOnes]
  simp [h]
theorem bt_not (a : Int32) {y : Nat} (h : y < 32) : bt (a ^^^ (-1)) y = !bt a y := by
  have := bt_m1 h
  unfold bt at *
  rw [Int32.toBitVec_xor, BitVec.getLsbD_xor, this]; simp
theorem bt_andn (a b : Int32) (y : Nat) : bt (a &&& (b ^^^ (-1))) y = (bt a y && !bt b y) := by
  rw [bt_and]
  by_cases h : y < 32
  · rw [bt_not b h]
  · rw [bt_ge a (by omega)]; simp
theorem bt_ext {a b : Int32} (h : ∀ y, y < 32 → bt a y = bt b y) : a = b := by
  apply Int32.toBitVec_inj.mp
  apply BitVec.eq_of_getLsbD_eq
  intro i hi
  exact h i hi
theorem bt_eq0 {w : Int32} : w = 0 ↔ ∀ y, y < 32 → bt w y = false := by
  constructor
  · rintro rfl y _; exact bt_zero y
  · intro h; exact bt_ext fun y hy => by rw [h y hy, bt_zero]
theorem ushr_bit (w : Int32) {y : Nat} (hy : y < 32) : (XT.ushr w (Int32.ofNat y)).toBitVec = w.toBitVec >>> y := by
  unfold XT.ushr
  have h1 : ((Int32.ofNat y &&& 31).toUInt32.toBitVec).toNat = y := by
    show ((Int32.ofNat y &&& 31).toBitVec).toNat = y
    rw [Int32.toBitVec_and, BitVec.toNat_and]
    have e1 : (Int32.ofNat y).toBitVec.toNat = y := by
      show (BitVec.ofNat 32 y).toNat = y
      rw [BitVec.toNat_ofNat]; omega
    have e2 : (31 : Int32).toBitVec.toNat = 31 := rfl
    rw [e1, e2, show 31 = 2 ^ 5 - 1 from rfl, Nat.and_two_pow_sub_one_eq_mod]; omega
  show (w.toUInt32 >>> (Int32.ofNat y &&& 31).toUInt32).toBitVec = _
  rw [UInt32.toBitVec_shiftRight]
  show w.toBitVec >>> ((Int32.ofNat y &&& 31).toUInt32.toBitVec % 32) = _
  rw [BitVec.ushiftRight_eq']
  congr 1
  rw [BitVec.toNat_umod, h1]
  show y % 32 = y
  omega
theorem and1 (w : Int32) : (w &&& 1 = 0) ↔ bt w 0 = false := by
  constructor
  · intro h
    have : bt (w &&& 1) 0 = false := by rw [h, bt_zero]
    rw [bt_and] at this
    simpa [show bt 1 0 = true from rfl] using this
  · intro h
    refine bt_ext fun y hy => ?_
    rw [bt_and, bt_zero]
    cases y with
    | zero => rw [h]; rfl
    | succ y =>
      have : bt 1 (y + 1) = false := by
        unfold bt
        show (1#32).getLsbD (y + 1) = false
        simp [BitVec.getLsbD_one]
      rw [this]; simp
theorem test_bit (w : Int32) {y : Nat} (hy : y < 32) : (XT.ushr w (Int32.ofNat y) &&& 1 = 0) ↔ bt w y = false := by
  rw [and1]
  unfold bt
  rw [ushr_bit w hy]; simp
theorem shl_bit {b : Nat} (hb : b < 32) (y : Nat) : bt ((1 : Int32) <<< (Int32.ofNat b &&& 31)) y = decide (y = b) := by
  have h1 : (Int32.ofNat b &&& 31) = Int32.ofNat b := by
    apply Int32.toBitVec_inj.mp
    rw [Int32.toBitVec_and]
    apply BitVec.eq_of_toNat_eq
    rw [BitVec.toNat_and]
    have e1 : (Int32.ofNat b).toBitVec.toNat = b := by
      show (BitVec.ofNat 32 b).toNat = b
      rw [BitVec.toNat_ofNat]; omega
    have e2 : (31 : Int32).toBitVec.toNat = 31 := rfl
    rw [e1, e2, show 31 = 2 ^ 5 - 1 from rfl, Nat.and_two_pow_sub_one_eq_mod]; omega
  rw [h1]
  unfold bt
  have e : ((1 : Int32) <<< Int32.ofNat b).toBitVec = (1#32) <<< b := by
    rw [Int32.toBitVec_shiftLeft]
    show (1#32) <<< ((Int32.ofNat b).toBitVec.smod 32) = _
    have : (Int32.ofNat b).toBitVec.smod 32 = BitVec.ofNat 32 b := by
      have hz : ∀ b : Fin 32, (Int32.ofNat b.val).toBitVec.smod 32 = BitVec.ofNat 32 b.val := by decide
      exact hz ⟨b, hb⟩
    rw [this, BitVec.shiftLeft_eq']
    congr 1
    rw [BitVec.toNat_ofNat]; omega
  rw [e]
  simp only [BitVec.getLsbD_shiftLeft, BitVec.getLsbD_one]
  by_cases h : y = b
  · subst h; simp [hb]
  · simp [h]; omega
end Jvm.PL
namespace Jvm.Pilot.@@N@@
open Jvm Jvm.ClassFile Sem Op Lib Jvm.Free Jvm.Stand Jvm.LawKit Jvm.RoadKit Jvm.AM Jvm.PL Jvm.Pilot.@@N@@.Jvm.D
def ci1 : CI := ("PageCompactorY", 19, [("frameTotal", "I", .int), ("pageTotal", "I", .int), ("freeSet", "J", .long), ("mappedSet", "J", .long), ("pinnedSet", "J", .long), ("reservedSet", "J", .long), ("runsStale", "Z", .boolean), ("scanLimit", "I", .int), ("scanMoved", "I", .int), ("scanMigrate", "I", .int), ("scanFree", "I", .int)], [("frameStates", "[B", .byte, 64), ("frameValues", "[I", .int, 64), ("frameCounts", "[I", .int, 64), ("pageFrame", "[I", .int, 64), ("rmapHead", "[I", .int, 64), ("rmapNext", "[I", .int, 64), ("rmapPrev", "[I", .int, 64), ("runSet", "[J", .long, 7)])
def PP : PI := (tables_1, ci1)
def BIG : Nat := 1000000
def m0 : Meth := (⟨"PageCompactorY", "clampInt", "(III)I"⟩, prog_1_method_18_code, 4, (some .int), { frames := 0, cells := 0, slots := 0, locals := 0 }, 1, false, 0, 0)
def m1 : Meth := (⟨"PageCompactorY", "lowMask", "(I)J"⟩, prog_1_method_42_code, 2, (some .long), { frames := 0, cells := 0, slots := 0, locals := 0 }, 1, false, 0, 0)
def m2 : Meth := (⟨"PageCompactorY", "resetAll", "()V"⟩, prog_1_method_24_code, 2, none, { frames := 1, cells := 0, slots := 0, locals := 14 }, 1, false, 0, 0)
def m3 : Meth := (⟨"PageCompactorY", "<init>", "(II)V"⟩, prog_1_method_1_code, 3, none, { frames := 2, cells := 8, slots := 455, locals := 27 }, 1, true, 1, 19)
def m4 : Meth := (⟨"PageCompactorY", "pageInRange", "(II)Z"⟩, prog_1_method_19_code, 3, (some .boolean), { frames := 0, cells := 0, slots := 0, locals := 0 }, 1, false, 0, 0)
def m5 : Meth := (⟨"PageCompactorY", "slotOf", "(II)I"⟩, prog_1_method_21_code, 3, (some .int), { frames := 0, cells := 0, slots := 0, locals := 0 }, 1, false, 0, 0)
def m6 : Meth := (⟨"PageCompactorY", "frameInRange", "(I)Z"⟩, prog_1_method_20_code, 2, (some .boolean), { frames := 0, cells := 0, slots := 0, locals := 0 }, 1, false, 0, 0)
def m7 : Meth := (⟨"PageCompactorY", "mappedFrame", "(II)I"⟩, prog_1_method_23_code, 5, (some .int), { frames := 1, cells := 0, slots := 0, locals := 14 }, 1, false, 0, 0)
def m8 : Meth := (⟨"PageCompactorY", "frameOf", "(II)I"⟩, prog_1_method_7_code, 4, (some .int), { frames := 2, cells := 0, slots := 0, locals := 30 }, 1, false, 0, 0)
def m9 : Meth := (⟨"PageCompactorY", "frameState", "(I)I"⟩, prog_1_method_13_code, 2, (some .int), { frames := 1, cells := 0, slots := 0, locals := 13 }, 1, false, 0, 0)
def m10 : Meth := (⟨"PageCompactorY", "bitCount", "(J)I"⟩, prog_1_method_46_code, 5, (some .int), { frames := 0, cells := 0, slots := 0, locals := 0 }, 1, false, 0, 0)
def m11 : Meth := (⟨"PageCompactorY", "freeCount", "()I"⟩, prog_1_method_16_code, 1, (some .int), { frames := 1, cells := 0, slots := 0, locals := 16 }, 1, false, 0, 0)
def m12 : Meth := (⟨"PageCompactorY", "checkTarget", "(II)I"⟩, prog_1_method_22_code, 4, (some .int), { frames := 1, cells := 0, slots := 0, locals := 14 }, 1, false, 0, 0)
def m13 : Meth := (⟨"PageCompactorY", "lowestBit", "(J)I"⟩, prog_1_method_44_code, 6, (some .int), { frames := 0, cells := 0, slots := 0, locals := 0 }, 1, false, 0, 0)
def m14 : Meth := (⟨"PageCompactorY", "bitOf", "(I)J"⟩, prog_1_method_41_code, 2, (some .long), { frames := 0, cells := 0, slots := 0, locals := 0 }, 1, false, 0, 0)
def m15 : Meth := (⟨"PageCompactorY", "enterState", "(II)V"⟩, prog_1_method_25_code, 5, none, { frames := 1, cells := 0, slots := 0, locals := 13 }, 1, false, 0, 0)
def m16 : Meth := (⟨"PageCompactorY", "rmapLink", "(II)V"⟩, prog_1_method_31_code, 4, none, { frames := 0, cells := 0, slots := 0, locals := 0 }, 1, false, 0, 0)
def m17 : Meth := (⟨"PageCompactorY", "attachPage", "(II)V"⟩, prog_1_method_29_code, 3, none, { frames := 1, cells := 0, slots := 0, locals := 15 }, 1, false, 0, 0)
def m18 : Meth := (⟨"PageCompactorY", "mapNew", "(III)I"⟩, prog_1_method_2_code, 7, (some .int), { frames := 2, cells := 0, slots := 0, locals := 29 }, 1, false, 0, 0)
def m19 : Meth := (⟨"PageCompactorY", "read", "(II)I"⟩, prog_1_method_6_code, 4, (some .int), { frames := 2, cells := 0, slots := 0, locals := 30 }, 1, false, 0, 0)
def m20 : Meth := (⟨"PageCompactorY", "mapCount", "(I)I"⟩, prog_1_method_15_code, 2, (some .int), { frames := 1, cells := 0, slots := 0, locals := 13 }, 1, false, 0, 0)
def m21 : Meth := (⟨"PageCompactorY", "frameValue", "(I)I"⟩, prog_1_method_14_code, 3, (some .int), { frames := 1, cells := 0, slots := 0, locals := 13 }, 1, false, 0, 0)
def m22 : Meth := (⟨"PageCompactorY", "share", "(IIII)I"⟩, prog_1_method_3_code, 8, (some .int), { frames := 2, cells := 0, slots := 0, locals := 29 }, 1, false, 0, 0)
def m23 : Meth := (⟨"PageCompactorY", "rmapUnlink", "(I)I"⟩, prog_1_method_32_code, 5, (some .int), { frames := 0, cells := 0, slots := 0, locals := 0 }, 1, false, 0, 0)
def m24 : Meth := (⟨"PageCompactorY", "detachPage", "(I)I"⟩, prog_1_method_30_code, 3, (some .int), { frames := 1, cells := 0, slots := 0, locals := 16 }, 1, false, 0, 0)
def m25 : Meth := (⟨"PageCompactorY", "freeFrame", "(I)V"⟩, prog_1_method_26_code, 2, none, { frames := 2, cells := 0, slots := 0, locals := 29 }, 1, false, 0, 0)
def m26 : Meth := (⟨"PageCompactorY", "unmap", "(II)I"⟩, prog_1_method_4_code, 5, (some .int), { frames := 3, cells := 0, slots := 0, locals := 42 }, 1, false, 0, 0)
def m27 : Meth := (⟨"PageCompactorY", "write", "(III)Z"⟩, prog_1_method_5_code, 5, (some .boolean), { frames := 2, cells := 0, slots := 0, locals := 30 }, 1, false, 0, 0)
def m28 : Meth := (⟨"PageCompactorY", "pin", "(I)Z"⟩, prog_1_method_8_code, 2, (some .boolean), { frames := 2, cells := 0, slots := 0, locals := 29 }, 1, false, 0, 0)
def m29 : Meth := (⟨"PageCompactorY", "unpin", "(I)Z"⟩, prog_1_method_9_code, 2, (some .boolean), { frames := 2, cells := 0, slots := 0, locals := 29 }, 1, false, 0, 0)
def m30 : Meth := (⟨"PageCompactorY", "alignMask", "(I)J"⟩, prog_1_method_36_code, 2, (some .long), { frames := 0, cells := 0, slots := 0, locals := 0 }, 1, false, 0, 0)
def m31 : Meth := (⟨"PageCompactorY", "refreshRuns", "()V"⟩, prog_1_method_35_code, 7, none, { frames := 1, cells := 0, slots := 0, locals := 13 }, 1, false, 0, 0)
def m32 : Meth := (⟨"PageCompactorY", "freeRunsOfOrder", "(I)J"⟩, prog_1_method_34_code, 2, (some .long), { frames := 2, cells := 0, slots := 0, locals := 31 }, 1, false, 0, 0)
def m33 : Meth := (⟨"PageCompactorY", "reserveFrame", "(I)V"⟩, prog_1_method_27_code, 2, none, { frames := 2, cells := 0, slots := 0, locals := 29 }, 1, false, 0, 0)
def m34 : Meth := (⟨"PageCompactorY", "reserveRun", "(II)V"⟩, prog_1_method_28_code, 5, none, { frames := 3, cells := 0, slots := 0, locals := 42 }, 1, false, 0, 0)
def m35 : Meth := (⟨"PageCompactorY", "allocBlock", "(I)I"⟩, prog_1_method_10_code, 5, (some .int), { frames := 4, cells := 0, slots := 0, locals := 58 }, 1, false, 0, 0)
def m36 : Meth := (⟨"PageCompactorY", "release", "(I)Z"⟩, prog_1_method_11_code, 2, (some .boolean), { frames := 3, cells := 0, slots := 0, locals := 42 }, 1, false, 0, 0)
def m37 : Meth := (⟨"PageCompactorY", "rangeMask", "(II)J"⟩, prog_1_method_43_code, 7, (some .long), { frames := 1, cells := 0, slots := 0, locals := 13 }, 1, false, 0, 0)
def m38 : Meth := (⟨"PageCompactorY", "advanceMigrateScanner", "()V"⟩, prog_1_method_37_code, 5, none, { frames := 2, cells := 0, slots := 0, locals := 31 }, 1, false, 0, 0)
def m39 : Meth := (⟨"PageCompactorY", "highestBit", "(J)I"⟩, prog_1_method_45_code, 6, (some .int), { frames := 0, cells := 0, slots := 0, locals := 0 }, 1, false, 0, 0)
def m40 : Meth := (⟨"PageCompactorY", "retreatFreeScanner", "()V"⟩, prog_1_method_38_code, 5, none, { frames := 2, cells := 0, slots := 0, locals := 31 }, 1, false, 0, 0)
def m41 : Meth := (⟨"PageCompactorY", "scannersDone", "()Z"⟩, prog_1_method_39_code, 1, (some .boolean), { frames := 0, cells := 0, slots := 0, locals := 0 }, 1, false, 0, 0)
def m42 : Meth := (⟨"PageCompactorY", "rmapTransfer", "(II)V"⟩, prog_1_method_33_code, 5, none, { frames := 0, cells := 0, slots := 0, locals := 0 }, 1, false, 0, 0)
def m43 : Meth := (⟨"PageCompactorY", "migrateFrame", "(II)V"⟩, prog_1_method_40_code, 5, none, { frames := 3, cells := 0, slots := 0, locals := 42 }, 1, false, 0, 0)
def m44 : Meth := (⟨"PageCompactorY", "compact", "(I)I"⟩, prog_1_method_12_code, 3, (some .int), { frames := 4, cells := 0, slots := 0, locals := 58 }, 1, false, 0, 0)
def m45 : Meth := (⟨"PageCompactorY", "largestFreeOrder", "()I"⟩, prog_1_method_17_code, 2, (some .int), { frames := 2, cells := 0, slots := 0, locals := 31 }, 1, false, 0, 0)
def m46 : Meth := (⟨"PageCompactorYL6", "check", "(LPageCompactorY;IIII)Z"⟩, method_2_code, 13, (some .boolean), { frames := 3, cells := 0, slots := 0, locals := 44 }, 1, false, 0, 0)
def m47 : Meth := (x, code, maxLocals, ret, room_1, 1, true, 0, 0)
theorem ar_0 : (cA PP.2)[0]? = some ("frameStates", "[B", .byte, 64) := rfl
theorem ar_1 : (cA PP.2)[1]? = some ("frameValues", "[I", .int, 64) := rfl
theorem ar_2 : (cA PP.2)[2]? = some ("frameCounts", "[I", .int, 64) := rfl
theorem ar_3 : (cA PP.2)[3]? = some ("pageFrame", "[I", .int, 64) := rfl
theorem ar_4 : (cA PP.2)[4]? = some ("rmapHead", "[I", .int, 64) := rfl
theorem ar_5 : (cA PP.2)[5]? = some ("rmapNext", "[I", .int, 64) := rfl
theorem ar_6 : (cA PP.2)[6]? = some ("rmapPrev", "[I", .int, 64) := rfl
theorem ar_7 : (cA PP.2)[7]? = some ("runSet", "[J", .long, 7) := rfl
theorem fa_7 : FldA PP 7 0 .byte := ⟨_, _, _, rfl, List.mem_of_getElem? (i := 10) rfl⟩
theorem fa_13 : FldA PP 13 1 .int := ⟨_, _, _, rfl, List.mem_of_getElem? (i := 13) rfl⟩
theorem fa_17 : FldA PP 17 2 .int := ⟨_, _, _, rfl, List.mem_of_getElem? (i := 15) rfl⟩
theorem fa_20 : FldA PP 20 3 .int := ⟨_, _, _, rfl, List.mem_of_getElem? (i := 17) rfl⟩
theorem fa_23 : FldA PP 23 4 .int := ⟨_, _, _, rfl, List.mem_of_getElem? (i := 19) rfl⟩
theorem fa_26 : FldA PP 26 5 .int := ⟨_, _, _, rfl, List.mem_of_getElem? (i := 21) rfl⟩
theorem fa_29 : FldA PP 29 6 .int := ⟨_, _, _, rfl, List.mem_of_getElem? (i := 23) rfl⟩
theorem fa_32 : FldA PP 32 7 .long := ⟨_, _, _, rfl, List.mem_of_getElem? (i := 26) rfl⟩
theorem fs_40 : FldS PP 40 0 .int := ⟨_, _, rfl, List.mem_of_getElem? (i := 32) rfl⟩
theorem fs_44 : FldS PP 44 1 .int := ⟨_, _, rfl, List.mem_of_getElem? (i := 34) rfl⟩
theorem fs_54 : FldS PP 54 2 .long := ⟨_, _, rfl, List.mem_of_getElem? (i := 44) rfl⟩
theorem fs_98 : FldS PP 98 7 .int := ⟨_, _, rfl, List.mem_of_getElem? (i := 195) rfl⟩
theorem fs_101 : FldS PP 101 8 .int := ⟨_, _, rfl, List.mem_of_getElem? (i := 197) rfl⟩
theorem fs_104 : FldS PP 104 9 .int := ⟨_, _, rfl, List.mem_of_getElem? (i := 199) rfl⟩
theorem fs_107 : FldS PP 107 10 .int := ⟨_, _, rfl, List.mem_of_getElem? (i := 201) rfl⟩
theorem fs_132 : FldS PP 132 3 .long := ⟨_, _, rfl, List.mem_of_getElem? (i := 46) rfl⟩
theorem fs_135 : FldS PP 135 4 .long := ⟨_, _, rfl, List.mem_of_getElem? (i := 48) rfl⟩
theorem fs_138 : FldS PP 138 5 .long := ⟨_, _, rfl, List.mem_of_getElem? (i := 50) rfl⟩
theorem fs_141 : FldS PP 141 6 .boolean := ⟨_, _, rfl, List.mem_of_getElem? (i := 52) rfl⟩
theorem wr_0 (M : Meth) : Wrt PP M 0 := ⟨_, _, _, rfl, Or.inl (List.mem_of_getElem? (i := 33) rfl)⟩
theorem wr_1 (M : Meth) : Wrt PP M 1 := ⟨_, _, _, rfl, Or.inl (List.mem_of_getElem? (i := 35) rfl)⟩
theorem wr_2 (M : Meth) : Wrt PP M 2 := ⟨_, _, _, rfl, Or.inl (List.mem_of_getElem? (i := 45) rfl)⟩
theorem wr_3 (M : Meth) : Wrt PP M 3 := ⟨_, _, _, rfl, Or.inl (List.mem_of_getElem? (i := 47) rfl)⟩
theorem wr_4 (M : Meth) : Wrt PP M 4 := ⟨_, _, _, rfl, Or.inl (List.mem_of_getElem? (i := 49) rfl)⟩
theorem wr_5 (M : Meth) : Wrt PP M 5 := ⟨_, _, _, rfl, Or.inl (List.mem_of_getElem? (i := 51) rfl)⟩
theorem wr_6 (M : Meth) : Wrt PP M 6 := ⟨_, _, _, rfl, Or.inl (List.mem_of_getElem? (i := 53) rfl)⟩
theorem wr_7 (M : Meth) : Wrt PP M 7 := ⟨_, _, _, rfl, Or.inl (List.mem_of_getElem? (i := 196) rfl)⟩
theorem wr_8 (M : Meth) : Wrt PP M 8 := ⟨_, _, _, rfl, Or.inl (List.mem_of_getElem? (i := 198) rfl)⟩
theorem wr_9 (M : Meth) : Wrt PP M 9 := ⟨_, _, _, rfl, Or.inl (List.mem_of_getElem? (i := 200) rfl)⟩
theorem wr_10 (M : Meth) : Wrt PP M 10 := ⟨_, _, _, rfl, Or.inl (List.mem_of_getElem? (i := 202) rfl)⟩
theorem oid_0 : 1 = (cK PP.2 + 1) * 0 + 1 := rfl
theorem pl_0 : plainName "PageCompactorY" = true := by first | (simp [plainName, overriddenIn]; done) | decide +kernel
theorem pl_1 : plainName "PageCompactorYL6" = true := by first | (simp [plainName, overriddenIn]; done) | decide +kernel
theorem hm_0 : (mY m0).cls = cN PP.2 := rfl
theorem hn_0 : 0 < mN m0 := by decide
theorem pd_0 : parseMethodDescriptor (mY m0).desc = some ⟨[.int, .int, .int], (some .int)⟩ := by decide +kernel
theorem hm_1 : (mY m1).cls = cN PP.2 := rfl
theorem hn_1 : 0 < mN m1 := by decide
theorem pd_1 : parseMethodDescriptor (mY m1).desc = some ⟨[.int], (some .long)⟩ := by decide +kernel
theorem hm_2 : (mY m2).cls = cN PP.2 := rfl
theorem hn_2 : 0 < mN m2 := by decide
theorem pd_2 : parseMethodDescriptor (mY m2).desc = some ⟨[], none⟩ := by decide +kernel
theorem hm_3 : (mY m3).cls = cN PP.2 := rfl
theorem hn_3 : 0 < mN m3 := by decide
theorem pd_3 : parseMethodDescriptor (mY m3).desc = some ⟨[.int, .int], none⟩ := by decide +kernel
theorem hm_4 : (mY m4).cls = cN PP.2 := rfl
theorem hn_4 : 0 < mN m4 := by decide
theorem pd_4 : parseMethodDescriptor (mY m4).desc = some ⟨[.int, .int], (some .boolean)⟩ := by decide +kernel
theorem hm_5 : (mY m5).cls = cN PP.2 := rfl
theorem hn_5 : 0 < mN m5 := by decide
theorem pd_5 : parseMethodDescriptor (mY m5).desc = some ⟨[.int, .int], (some .int)⟩ := by decide +kernel
theorem hm_6 : (mY m6).cls = cN PP.2 := rfl
theorem hn_6 : 0 < mN m6 := by decide
theorem pd_6 : parseMethodDescriptor (mY m6).desc = some ⟨[.int], (some .boolean)⟩ := by decide +kernel
theorem hm_7 : (mY m7).cls = cN PP.2 := rfl
theorem hn_7 : 0 < mN m7 := by decide
theorem pd_7 : parseMethodDescriptor (mY m7).desc = some ⟨[.int, .int], (some .int)⟩ := by decide +kernel
theorem hm_8 : (mY m8).cls = cN PP.2 := rfl
theorem hn_8 : 0 < mN m8 := by decide
theorem pd_8 : parseMethodDescriptor (mY m8).desc = some ⟨[.int, .int], (some .int)⟩ := by decide +kernel
theorem hm_9 : (mY m9).cls = cN PP.2 := rfl
theorem hn_9 : 0 < mN m9 := by decide
theorem pd_9 : parseMethodDescriptor (mY m9).desc = some ⟨[.int], (some .int)⟩ := by decide +kernel
theorem hm_10 : (mY m10).cls = cN PP.2 := rfl
theorem hn_10 : 0 < mN m10 := by decide
theorem pd_10 : parseMethodDescriptor (mY m10).desc = some ⟨[.long], (some .int)⟩ := by decide +kernel
theorem hm_11 : (mY m11).cls = cN PP.2 := rfl
theorem hn_11 : 0 < mN m11 := by decide
theorem pd_11 : parseMethodDescriptor (mY m11).desc = some ⟨[], (some .int)⟩ := by decide +kernel
theorem hm_12 : (mY m12).cls = cN PP.2 := rfl
theorem hn_12 : 0 < mN m12 := by decide
theorem pd_12 : parseMethodDescriptor (mY m12).desc = some ⟨[.int, .int], (some .int)⟩ := by decide +kernel
theorem hm_13 : (mY m13).cls = cN PP.2 := rfl
theorem hn_13 : 0 < mN m13 := by decide
theorem pd_13 : parseMethodDescriptor (mY m13).desc = some ⟨[.long], (some .int)⟩ := by decide +kernel
theorem hm_14 : (mY m14).cls = cN PP.2 := rfl
theorem hn_14 : 0 < mN m14 := by decide
theorem pd_14 : parseMethodDescriptor (mY m14).desc = some ⟨[.int], (some .long)⟩ := by decide +kernel
theorem hm_15 : (mY m15).cls = cN PP.2 := rfl
theorem hn_15 : 0 < mN m15 := by decide
theorem pd_15 : parseMethodDescriptor (mY m15).desc = some ⟨[.int, .int], none⟩ := by decide +kernel
theorem hm_16 : (mY m16).cls = cN PP.2 := rfl
theorem hn_16 : 0 < mN m16 := by decide
theorem pd_16 : parseMethodDescriptor (mY m16).desc = some ⟨[.int, .int], none⟩ := by decide +kernel
theorem hm_17 : (mY m17).cls = cN PP.2 := rfl
theorem hn_17 : 0 < mN m17 := by decide
theorem pd_17 : parseMethodDescriptor (mY m17).desc = some ⟨[.int, .int], none⟩ := by decide +kernel
theorem hm_18 : (mY m18).cls = cN PP.2 := rfl
theorem hn_18 : 0 < mN m18 := by decide
theorem pd_18 : parseMethodDescriptor (mY m18).desc = some ⟨[.int, .int, .int], (some .int)⟩ := by decide +kernel
theorem hm_19 : (mY m19).cls = cN PP.2 := rfl
theorem hn_19 : 0 < mN m19 := by decide
theorem pd_19 : parseMethodDescriptor (mY m19).desc = some ⟨[.int, .int], (some .int)⟩ := by decide +kernel
theorem hm_20 : (mY m20).cls = cN PP.2 := rfl
theorem hn_20 : 0 < mN m20 := by decide
theorem pd_20 : parseMethodDescriptor (mY m20).desc = some ⟨[.int], (some .int)⟩ := by decide +kernel
theorem hm_21 : (mY m21).cls = cN PP.2 := rfl
theorem hn_21 : 0 < mN m21 := by decide
theorem pd_21 : parseMethodDescriptor (mY m21).desc = some ⟨[.int], (some .int)⟩ := by decide +kernel
theorem hm_22 : (mY m22).cls = cN PP.2 := rfl
theorem hn_22 : 0 < mN m22 := by decide
theorem pd_22 : parseMethodDescriptor (mY m22).desc = some ⟨[.int, .int, .int, .int], (some .int)⟩ := by decide +kernel
theorem hm_23 : (mY m23).cls = cN PP.2 := rfl
theorem hn_23 : 0 < mN m23 := by decide
theorem pd_23 : parseMethodDescriptor (mY m23).desc = some ⟨[.int], (some .int)⟩ := by decide +kernel
theorem hm_24 : (mY m24).cls = cN PP.2 := rfl
theorem hn_24 : 0 < mN m24 := by decide
theorem pd_24 : parseMethodDescriptor (mY m24).desc = some ⟨[.int], (some .int)⟩ := by decide +kernel
theorem hm_25 : (mY m25).cls = cN PP.2 := rfl
theorem hn_25 : 0 < mN m25 := by decide
theorem pd_25 : parseMethodDescriptor (mY m25).desc = some ⟨[.int], none⟩ := by decide +kernel
theorem hm_26 : (mY m26).cls = cN PP.2 := rfl
theorem hn_26 : 0 < mN m26 := by decide
theorem pd_26 : parseMethodDescriptor (mY m26).desc = some ⟨[.int, .int], (some .int)⟩ := by decide +kernel
theorem hm_27 : (mY m27).cls = cN PP.2 := rfl
theorem hn_27 : 0 < mN m27 := by decide
theorem pd_27 : parseMethodDescriptor (mY m27).desc = some ⟨[.int, .int, .int], (some .boolean)⟩ := by decide +kernel
theorem hm_28 : (mY m28).cls = cN PP.2 := rfl
theorem hn_28 : 0 < mN m28 := by decide
theorem pd_28 : parseMethodDescriptor (mY m28).desc = some ⟨[.int], (some .boolean)⟩ := by decide +kernel
theorem hm_29 : (mY m29).cls = cN PP.2 := rfl
theorem hn_29 : 0 < mN m29 := by decide
theorem pd_29 : parseMethodDescriptor (mY m29).desc = some ⟨[.int], (some .boolean)⟩ := by decide +kernel
theorem hm_30 : (mY m30).cls = cN PP.2 := rfl
theorem hn_30 : 0 < mN m30 := by decide
theorem pd_30 : parseMethodDescriptor (mY m30).desc = some ⟨[.int], (some .long)⟩ := by decide +kernel
theorem hm_31 : (mY m31).cls = cN PP.2 := rfl
theorem hn_31 : 0 < mN m31 := by decide
theorem pd_31 : parseMethodDescriptor (mY m31).desc = some ⟨[], none⟩ := by decide +kernel
theorem hm_32 : (mY m32).cls = cN PP.2 := rfl
theorem hn_32 : 0 < mN m32 := by decide
theorem pd_32 : parseMethodDescriptor (mY m32).desc = some ⟨[.int], (some .long)⟩ := by decide +kernel
theorem hm_33 : (mY m33).cls = cN PP.2 := rfl
theorem hn_33 : 0 < mN m33 := by decide
theorem pd_33 : parseMethodDescriptor (mY m33).desc = some ⟨[.int], none⟩ := by decide +kernel
theorem hm_34 : (mY m34).cls = cN PP.2 := rfl
theorem hn_34 : 0 < mN m34 := by decide
theorem pd_34 : parseMethodDescriptor (mY m34).desc = some ⟨[.int, .int], none⟩ := by decide +kernel
theorem hm_35 : (mY m35).cls = cN PP.2 := rfl
theorem hn_35 : 0 < mN m35 := by decide
theorem pd_35 : parseMethodDescriptor (mY m35).desc = some ⟨[.int], (some .int)⟩ := by decide +kernel
theorem hm_36 : (mY m36).cls = cN PP.2 := rfl
theorem hn_36 : 0 < mN m36 := by decide
theorem pd_36 : parseMethodDescriptor (mY m36).desc = some ⟨[.int], (some .boolean)⟩ := by decide +kernel
theorem hm_37 : (mY m37).cls = cN PP.2 := rfl
theorem hn_37 : 0 < mN m37 := by decide
theorem pd_37 : parseMethodDescriptor (mY m37).desc = some ⟨[.int, .int], (some .long)⟩ := by decide +kernel
theorem hm_38 : (mY m38).cls = cN PP.2 := rfl
theorem hn_38 : 0 < mN m38 := by decide
theorem pd_38 : parseMethodDescriptor (mY m38).desc = some ⟨[], none⟩ := by decide +kernel
theorem hm_39 : (mY m39).cls = cN PP.2 := rfl
theorem hn_39 : 0 < mN m39 := by decide
theorem pd_39 : parseMethodDescriptor (mY m39).desc = some ⟨[.long], (some .int)⟩ := by decide +kernel
theorem hm_40 : (mY m40).cls = cN PP.2 := rfl
theorem hn_40 : 0 < mN m40 := by decide
theorem pd_40 : parseMethodDescriptor (mY m40).desc = some ⟨[], none⟩ := by decide +kernel
theorem hm_41 : (mY m41).cls = cN PP.2 := rfl
theorem hn_41 : 0 < mN m41 := by decide
theorem pd_41 : parseMethodDescriptor (mY m41).desc = some ⟨[], (some .boolean)⟩ := by decide +kernel
theorem hm_42 : (mY m42).cls = cN PP.2 := rfl
theorem hn_42 : 0 < mN m42 := by decide
theorem pd_42 : parseMethodDescriptor (mY m42).desc = some ⟨[.int, .int], none⟩ := by decide +kernel
theorem hm_43 : (mY m43).cls = cN PP.2 := rfl
theorem hn_43 : 0 < mN m43 := by decide
theorem pd_43 : parseMethodDescriptor (mY m43).desc = some ⟨[.int, .int], none⟩ := by decide +kernel
theorem hm_44 : (mY m44).cls = cN PP.2 := rfl
theorem hn_44 : 0 < mN m44 := by decide
theorem pd_44 : parseMethodDescriptor (mY m44).desc = some ⟨[.int], (some .int)⟩ := by decide +kernel
theorem hm_45 : (mY m45).cls = cN PP.2 := rfl
theorem hn_45 : 0 < mN m45 := by decide
theorem pd_45 : parseMethodDescriptor (mY m45).desc = some ⟨[], (some .int)⟩ := by decide +kernel
theorem hn_46 : 0 < mN m46 := by decide
theorem pd_46 : parseMethodDescriptor (mY m46).desc = some ⟨[.object "PageCompactorY", .int, .int, .int, .int], (some .boolean)⟩ := by decide +kernel
theorem hn_47 : 0 < mN m47 := by decide
theorem d0_0 : decode (mB m0) 0 = .ok (.iload_n 1, 1) := by decide +kernel
theorem d0_1 : decode (mB m0) 1 = .ok (.iload_n 2, 1) := by decide +kernel
theorem d0_2 : decode (mB m0) 2 = .ok (.if_icmp .ge 5, 3) := by decide +kernel
theorem d0_5 : decode (mB m0) 5 = .ok (.iload_n 2, 1) := by decide +kernel
theorem d0_6 : decode (mB m0) 6 = .ok (.ireturn, 1) := by decide +kernel
theorem d0_7 : decode (mB m0) 7 = .ok (.iload_n 1, 1) := by decide +kernel
theorem d0_8 : decode (mB m0) 8 = .ok (.iload_n 3, 1) := by decide +kernel
theorem d0_9 : decode (mB m0) 9 = .ok (.if_icmp .le 5, 3) := by decide +kernel
theorem d0_12 : decode (mB m0) 12 = .ok (.iload_n 3, 1) := by decide +kernel
theorem d0_13 : decode (mB m0) 13 = .ok (.ireturn, 1) := by decide +kernel
theorem d0_14 : decode (mB m0) 14 = .ok (.iload_n 1, 1) := by decide +kernel
theorem d0_15 : decode (mB m0) 15 = .ok (.ireturn, 1) := by decide +kernel
theorem d1_0 : decode (mB m1) 0 = .ok (.iload_n 1, 1) := by decide +kernel
theorem d1_1 : decode (mB m1) 1 = .ok (.ifCond .gt 5, 3) := by decide +kernel
theorem d1_4 : decode (mB m1) 4 = .ok (.lconst 0, 1) := by decide +kernel
theorem d1_5 : decode (mB m1) 5 = .ok (.lreturn, 1) := by decide +kernel
theorem d1_6 : decode (mB m1) 6 = .ok (.iload_n 1, 1) := by decide +kernel
theorem d1_7 : decode (mB m1) 7 = .ok (.bipush 64, 2) := by decide +kernel
theorem d1_9 : decode (mB m1) 9 = .ok (.if_icmp .lt 7, 3) := by decide +kernel
theorem d1_12 : decode (mB m1) 12 = .ok (.ldc2_w 148, 3) := by decide +kernel
theorem d1_15 : decode (mB m1) 15 = .ok (.lreturn, 1) := by decide +kernel
theorem d1_16 : decode (mB m1) 16 = .ok (.lconst 1, 1) := by decide +kernel
theorem d1_17 : decode (mB m1) 17 = .ok (.iload_n 1, 1) := by decide +kernel
theorem d1_18 : decode (mB m1) 18 = .ok (.lshl, 1) := by decide +kernel
theorem d1_19 : decode (mB m1) 19 = .ok (.lconst 1, 1) := by decide +kernel
theorem d1_20 : decode (mB m1) 20 = .ok (.lsub, 1) := by decide +kernel
theorem d1_21 : decode (mB m1) 21 = .ok (.lreturn, 1) := by decide +kernel
theorem d2_0 : decode (mB m2) 0 = .ok (.iconst 0, 1) := by decide +kernel
theorem d2_1 : decode (mB m2) 1 = .ok (.istore_n 1, 1) := by decide +kernel
theorem d2_2 : decode (mB m2) 2 = .ok (.iload_n 1, 1) := by decide +kernel
theorem d2_3 : decode (mB m2) 3 = .ok (.bipush 64, 2) := by decide +kernel
theorem d2_5 : decode (mB m2) 5 = .ok (.if_icmp .ge 58, 3) := by decide +kernel
theorem d2_8 : decode (mB m2) 8 = .ok (.aload_n 0, 1) := by decide +kernel
theorem d2_9 : decode (mB m2) 9 = .ok (.getfield 7, 3) := by decide +kernel
theorem d2_12 : decode (mB m2) 12 = .ok (.iload_n 1, 1) := by decide +kernel
theorem d2_13 : decode (mB m2) 13 = .ok (.iconst 0, 1) := by decide +kernel
theorem d2_14 : decode (mB m2) 14 = .ok (.bastore, 1) := by decide +kernel
theorem d2_15 : decode (mB m2) 15 = .ok (.aload_n 0, 1) := by decide +kernel
theorem d2_16 : decode (mB m2) 16 = .ok (.getfield 13, 3) := by decide +kernel
theorem d2_19 : decode (mB m2) 19 = .ok (.iload_n 1, 1) := by decide +kernel
theorem d2_20 : decode (mB m2) 20 = .ok (.iconst 0, 1) := by decide +kernel
theorem d2_21 : decode (mB m2) 21 = .ok (.iastore, 1) := by decide +kernel
theorem d2_22 : decode (mB m2) 22 = .ok (.aload_n 0, 1) := by decide +kernel
theorem d2_23 : decode (mB m2) 23 = .ok (.getfield 17, 3) := by decide +kernel
theorem d2_26 : decode (mB m2) 26 = .ok (.iload_n 1, 1) := by decide +kernel
theorem d2_27 : decode (mB m2) 27 = .ok (.iconst 0, 1) := by decide +kernel
theorem d2_28 : decode (mB m2) 28 = .ok (.iastore, 1) := by decide +kernel
theorem d2_29 : decode (mB m2) 29 = .ok (.aload_n 0, 1) := by decide +kernel
theorem d2_30 : decode (mB m2) 30 = .ok (.getfield 20, 3) := by decide +kernel
theorem d2_33 : decode (mB m2) 33 = .ok (.iload_n 1, 1) := by decide +kernel
theorem d2_34 : decode (mB m2) 34 = .ok (.iconst (-1), 1) := by decide +kernel
theorem d2_35 : decode (mB m2) 35 = .ok (.iastore, 1) := by decide +kernel
theorem d2_36 : decode (mB m2) 36 = .ok (.aload_n 0, 1) := by decide +kernel
theorem d2_37 : decode (mB m2) 37 = .ok (.getfield 23, 3) := by decide +kernel
theorem d2_40 : decode (mB m2) 40 = .ok (.iload_n 1, 1) := by decide +kernel
theorem d2_41 : decode (mB m2) 41 = .ok (.iconst (-1), 1) := by decide +kernel
theorem d2_42 : decode (mB m2) 42 = .ok (.iastore, 1) := by decide +kernel
theorem d2_43 : decode (mB m2) 43 = .ok (.aload_n 0, 1) := by decide +kernel
theorem d2_44 : decode (mB m2) 44 = .ok (.getfield 26, 3) := by decide +kernel
theorem d2_47 : decode (mB m2) 47 = .ok (.iload_n 1, 1) := by decide +kernel
theorem d2_48 : decode (mB m2) 48 = .ok (.iconst (-1), 1) := by decide +kernel
theorem d2_49 : decode (mB m2) 49 = .ok (.iastore, 1) := by decide +kernel
theorem d2_50 : decode (mB m2) 50 = .ok (.aload_n 0, 1) := by decide +kernel
theorem d2_51 : decode (mB m2) 51 = .ok (.getfield 29, 3) := by decide +kernel
theorem d2_54 : decode (mB m2) 54 = .ok (.iload_n 1, 1) := by decide +kernel
theorem d2_55 : decode (mB m2) 55 = .ok (.iconst (-1), 1) := by decide +kernel
theorem d2_56 : decode (mB m2) 56 = .ok (.iastore, 1) := by decide +kernel
theorem d2_57 : decode (mB m2) 57 = .ok (.iinc 1 1, 3) := by decide +kernel
theorem d2_60 : decode (mB m2) 60 = .ok (.goto (-58), 3) := by decide +kernel
theorem d2_63 : decode (mB m2) 63 = .ok (.aload_n 0, 1) := by decide +kernel
theorem d2_64 : decode (mB m2) 64 = .ok (.aload_n 0, 1) := by decide +kernel
theorem d2_65 : decode (mB m2) 65 = .ok (.aload_n 0, 1) := by decide +kernel
theorem d2_66 : decode (mB m2) 66 = .ok (.getfield 40, 3) := by decide +kernel
theorem d2_69 : decode (mB m2) 69 = .ok (.invokevirtual 129, 3) := by decide +kernel
theorem d2_72 : decode (mB m2) 72 = .ok (.putfield 54, 3) := by decide +kernel
theorem d2_75 : decode (mB m2) 75 = .ok (.aload_n 0, 1) := by decide +kernel
theorem d2_76 : decode (mB m2) 76 = .ok (.lconst 0, 1) := by decide +kernel
theorem d2_77 : decode (mB m2) 77 = .ok (.putfield 132, 3) := by decide +kernel
theorem d2_80 : decode (mB m2) 80 = .ok (.aload_n 0, 1) := by decide +kernel
theorem d2_81 : decode (mB m2) 81 = .ok (.lconst 0, 1) := by decide +kernel
theorem d2_82 : decode (mB m2) 82 = .ok (.putfield 135, 3) := by decide +kernel
theorem d2_85 : decode (mB m2) 85 = .ok (.aload_n 0, 1) := by decide +kernel
theorem d2_86 : decode (mB m2) 86 = .ok (.lconst 0, 1) := by decide +kernel
theorem d2_87 : decode (mB m2) 87 = .ok (.putfield 138, 3) := by decide +kernel
theorem d2_90 : decode (mB m2) 90 = .ok (.aload_n 0, 1) := by decide +kernel
theorem d2_91 : decode (mB m2) 91 = .ok (.iconst 1, 1) := by decide +kernel
theorem d2_92 : decode (mB m2) 92 = .ok (.putfield 141, 3) := by decide +kernel
theorem d2_95 : decode (mB m2) 95 = .ok (.return_, 1) := by decide +kernel
theorem d3_0 : decode (mB m3) 0 = .ok (.aload_n 0, 1) := by decide +kernel
theorem d3_1 : decode (mB m3) 1 = .ok (.invokespecial 1, 3) := by decide +kernel
theorem d3_4 : decode (mB m3) 4 = .ok (.aload_n 0, 1) := by decide +kernel
theorem d3_5 : decode (mB m3) 5 = .ok (.bipush 64, 2) := by decide +kernel
theorem d3_7 : decode (mB m3) 7 = .ok (.newarray .byte, 2) := by decide +kernel
theorem d3_9 : decode (mB m3) 9 = .ok (.putfield 7, 3) := by decide +kernel
theorem d3_12 : decode (mB m3) 12 = .ok (.aload_n 0, 1) := by decide +kernel
theorem d3_13 : decode (mB m3) 13 = .ok (.bipush 64, 2) := by decide +kernel
theorem d3_15 : decode (mB m3) 15 = .ok (.newarray .int, 2) := by decide +kernel
theorem d3_17 : decode (mB m3) 17 = .ok (.putfield 13, 3) := by decide +kernel
theorem d3_20 : decode (mB m3) 20 = .ok (.aload_n 0, 1) := by decide +kernel
theorem d3_21 : decode (mB m3) 21 = .ok (.bipush 64, 2) := by decide +kernel
theorem d3_23 : decode (mB m3) 23 = .ok (.newarray .int, 2) := by decide +kernel
theorem d3_25 : decode (mB m3) 25 = .ok (.putfield 17, 3) := by decide +kernel
theorem d3_28 : decode (mB m3) 28 = .ok (.aload_n 0, 1) := by decide +kernel
theorem d3_29 : decode (mB m3) 29 = .ok (.bipush 64, 2) := by decide +kernel
theorem d3_31 : decode (mB m3) 31 = .ok (.newarray .int, 2) := by decide +kernel
theorem d3_33 : decode (mB m3) 33 = .ok (.putfield 20, 3) := by decide +kernel
theorem d3_36 : decode (mB m3) 36 = .ok (.aload_n 0, 1) := by decide +kernel
theorem d3_37 : decode (mB m3) 37 = .ok (.bipush 64, 2) := by decide +kernel
theorem d3_39 : decode (mB m3) 39 = .ok (.newarray .int, 2) := by decide +kernel
theorem d3_41 : decode (mB m3) 41 = .ok (.putfield 23, 3) := by decide +kernel
theorem d3_44 : decode (mB m3) 44 = .ok (.aload_n 0, 1) := by decide +kernel
theorem d3_45 : decode (mB m3) 45 = .ok (.bipush 64, 2) := by decide +kernel
theorem d3_47 : decode (mB m3) 47 = .ok (.newarray .int, 2) := by decide +kernel
theorem d3_49 : decode (mB m3) 49 = .ok (.putfield 26, 3) := by decide +kernel
theorem d3_52 : decode (mB m3) 52 = .ok (.aload_n 0, 1) := by decide +kernel
theorem d3_53 : decode (mB m3) 53 = .ok (.bipush 64, 2) := by decide +kernel
theorem d3_55 : decode (mB m3) 55 = .ok (.newarray .int, 2) := by decide +kernel
theorem d3_57 : decode (mB m3) 57 = .ok (.putfield 29, 3) := by decide +kernel
theorem d3_60 : decode (mB m3) 60 = .ok (.aload_n 0, 1) := by decide +kernel
theorem d3_61 : decode (mB m3) 61 = .ok (.bipush 7, 2) := by decide +kernel
theorem d3_63 : decode (mB m3) 63 = .ok (.newarray .long, 2) := by decide +kernel
theorem d3_65 : decode (mB m3) 65 = .ok (.putfield 32, 3) := by decide +kernel
theorem d3_68 : decode (mB m3) 68 = .ok (.aload_n 0, 1) := by decide +kernel
theorem d3_69 : decode (mB m3) 69 = .ok (.aload_n 0, 1) := by decide +kernel
theorem d3_70 : decode (mB m3) 70 = .ok (.iload_n 1, 1) := by decide +kernel
theorem d3_71 : decode (mB m3) 71 = .ok (.bipush 8, 2) := by decide +kernel
theorem d3_73 : decode (mB m3) 73 = .ok (.bipush 64, 2) := by decide +kernel
theorem d3_75 : decode (mB m3) 75 = .ok (.invokevirtual 36, 3) := by decide +kernel
theorem d3_78 : decode (mB m3) 78 = .ok (.putfield 40, 3) := by decide +kernel
theorem d3_81 : decode (mB m3) 81 = .ok (.aload_n 0, 1) := by decide +kernel
theorem d3_82 : decode (mB m3) 82 = .ok (.aload_n 0, 1) := by decide +kernel
theorem d3_83 : decode (mB m3) 83 = .ok (.iload_n 2, 1) := by decide +kernel
theorem d3_84 : decode (mB m3) 84 = .ok (.iconst 4, 1) := by decide +kernel
theorem d3_85 : decode (mB m3) 85 = .ok (.bipush 16, 2) := by decide +kernel
theorem d3_87 : decode (mB m3) 87 = .ok (.invokevirtual 36, 3) := by decide +kernel
theorem d3_90 : decode (mB m3) 90 = .ok (.putfield 44, 3) := by decide +kernel
theorem d3_93 : decode (mB m3) 93 = .ok (.aload_n 0, 1) := by decide +kernel
theorem d3_94 : decode (mB m3) 94 = .ok (.invokevirtual 47, 3) := by decide +kernel
theorem d3_97 : decode (mB m3) 97 = .ok (.return_, 1) := by decide +kernel
theorem d4_0 : decode (mB m4) 0 = .ok (.iload_n 1, 1) := by decide +kernel
theorem d4_1 : decode (mB m4) 1 = .ok (.ifCond .lt 8, 3) := by decide +kernel
theorem d4_4 : decode (mB m4) 4 = .ok (.iload_n 1, 1) := by decide +kernel
theorem d4_5 : decode (mB m4) 5 = .ok (.iconst 4, 1) := by decide +kernel
theorem d4_6 : decode (mB m4) 6 = .ok (.if_icmp .lt 5, 3) := by decide +kernel
theorem d4_9 : decode (mB m4) 9 = .ok (.iconst 0, 1) := by decide +kernel
theorem d4_10 : decode (mB m4) 10 = .ok (.ireturn, 1) := by decide +kernel
theorem d4_11 : decode (mB m4) 11 = .ok (.iload_n 2, 1) := by decide +kernel
theorem d4_12 : decode (mB m4) 12 = .ok (.ifCond .lt 15, 3) := by decide +kernel
theorem d4_15 : decode (mB m4) 15 = .ok (.iload_n 2, 1) := by decide +kernel
theorem d4_16 : decode (mB m4) 16 = .ok (.aload_n 0, 1) := by decide +kernel
theorem d4_17 : decode (mB m4) 17 = .ok (.getfield 44, 3) := by decide +kernel
theorem d4_20 : decode (mB m4) 20 = .ok (.if_icmp .ge 7, 3) := by decide +kernel
theorem d4_23 : decode (mB m4) 23 = .ok (.iconst 1, 1) := by decide +kernel
theorem d4_24 : decode (mB m4) 24 = .ok (.goto 4, 3) := by decide +kernel
theorem d4_27 : decode (mB m4) 27 = .ok (.iconst 0, 1) := by decide +kernel
theorem d4_28 : decode (mB m4) 28 = .ok (.ireturn, 1) := by decide +kernel
theorem d5_0 : decode (mB m5) 0 = .ok (.iload_n 1, 1) := by decide +kernel
theorem d5_1 : decode (mB m5) 1 = .ok (.bipush 16, 2) := by decide +kernel
theorem d5_3 : decode (mB m5) 3 = .ok (.imul, 1) := by decide +kernel
theorem d5_4 : decode (mB m5) 4 = .ok (.iload_n 2, 1) := by decide +kernel
theorem d5_5 : decode (mB m5) 5 = .ok (.iadd, 1) := by decide +kernel
theorem d5_6 : decode (mB m5) 6 = .ok (.ireturn, 1) := by decide +kernel
theorem d6_0 : decode (mB m6) 0 = .ok (.iload_n 1, 1) := by decide +kernel
theorem d6_1 : decode (mB m6) 1 = .ok (.ifCond .lt 15, 3) := by decide +kernel
theorem d6_4 : decode (mB m6) 4 = .ok (.iload_n 1, 1) := by decide +kernel
theorem d6_5 : decode (mB m6) 5 = .ok (.aload_n 0, 1) := by decide +kernel
theorem d6_6 : decode (mB m6) 6 = .ok (.getfield 40, 3) := by decide +kernel
theorem d6_9 : decode (mB m6) 9 = .ok (.if_icmp .ge 7, 3) := by decide +kernel
theorem d6_12 : decode (mB m6) 12 = .ok (.iconst 1, 1) := by decide +kernel
theorem d6_13 : decode (mB m6) 13 = .ok (.goto 4, 3) := by decide +kernel
theorem d6_16 : decode (mB m6) 16 = .ok (.iconst 0, 1) := by decide +kernel
theorem d6_17 : decode (mB m6) 17 = .ok (.ireturn, 1) := by decide +kernel
theorem d7_0 : decode (mB m7) 0 = .ok (.aload_n 0, 1) := by decide +kernel
theorem d7_1 : decode (mB m7) 1 = .ok (.iload_n 1, 1) := by decide +kernel
theorem d7_2 : decode (mB m7) 2 = .ok (.iload_n 2, 1) := by decide +kernel
theorem d7_3 : decode (mB m7) 3 = .ok (.invokevirtual 76, 3) := by decide +kernel
theorem d7_6 : decode (mB m7) 6 = .ok (.ifCond .ne 5, 3) := by decide +kernel
theorem d7_9 : decode (mB m7) 9 = .ok (.iconst (-1), 1) := by decide +kernel
theorem d7_10 : decode (mB m7) 10 = .ok (.ireturn, 1) := by decide +kernel
theorem d7_11 : decode (mB m7) 11 = .ok (.aload_n 0, 1) := by decide +kernel
theorem d7_12 : decode (mB m7) 12 = .ok (.iload_n 1, 1) := by decide +kernel
theorem d7_13 : decode (mB m7) 13 = .ok (.iload_n 2, 1) := by decide +kernel
theorem d7_14 : decode (mB m7) 14 = .ok (.invokevirtual 66, 3) := by decide +kernel
theorem d7_17 : decode (mB m7) 17 = .ok (.istore_n 3, 1) := by decide +kernel
theorem d7_18 : decode (mB m7) 18 = .ok (.aload_n 0, 1) := by decide +kernel
theorem d7_19 : decode (mB m7) 19 = .ok (.getfield 20, 3) := by decide +kernel
theorem d7_22 : decode (mB m7) 22 = .ok (.iload_n 3, 1) := by decide +kernel
theorem d7_23 : decode (mB m7) 23 = .ok (.iaload, 1) := by decide +kernel
theorem d7_24 : decode (mB m7) 24 = .ok (.istore 4, 2) := by decide +kernel
theorem d7_26 : decode (mB m7) 26 = .ok (.aload_n 0, 1) := by decide +kernel
theorem d7_27 : decode (mB m7) 27 = .ok (.iload 4, 2) := by decide +kernel
theorem d7_29 : decode (mB m7) 29 = .ok (.invokevirtual 62, 3) := by decide +kernel
theorem d7_32 : decode (mB m7) 32 = .ok (.ifCond .ne 5, 3) := by decide +kernel
theorem d7_35 : decode (mB m7) 35 = .ok (.iconst (-1), 1) := by decide +kernel
theorem d7_36 : decode (mB m7) 36 = .ok (.ireturn, 1) := by decide +kernel
theorem d7_37 : decode (mB m7) 37 = .ok (.iload 4, 2) := by decide +kernel
theorem d7_39 : decode (mB m7) 39 = .ok (.ireturn, 1) := by decide +kernel
theorem d8_0 : decode (mB m8) 0 = .ok (.aload_n 0, 1) := by decide +kernel
theorem d8_1 : decode (mB m8) 1 = .ok (.iload_n 1, 1) := by decide +kernel
theorem d8_2 : decode (mB m8) 2 = .ok (.iload_n 2, 1) := by decide +kernel
theorem d8_3 : decode (mB m8) 3 = .ok (.invokevirtual 88, 3) := by decide +kernel
theorem d8_6 : decode (mB m8) 6 = .ok (.istore_n 3, 1) := by decide +kernel
theorem d8_7 : decode (mB m8) 7 = .ok (.iload_n 3, 1) := by decide +kernel
theorem d8_8 : decode (mB m8) 8 = .ok (.ifCond .ge 5, 3) := by decide +kernel
theorem d8_11 : decode (mB m8) 11 = .ok (.iconst (-1), 1) := by decide +kernel
theorem d8_12 : decode (mB m8) 12 = .ok (.ireturn, 1) := by decide +kernel
theorem d8_13 : decode (mB m8) 13 = .ok (.iload_n 3, 1) := by decide +kernel
theorem d8_14 : decode (mB m8) 14 = .ok (.ireturn, 1) := by decide +kernel
theorem d9_0 : decode (mB m9) 0 = .ok (.aload_n 0, 1) := by decide +kernel
theorem d9_1 : decode (mB m9) 1 = .ok (.iload_n 1, 1) := by decide +kernel
theorem d9_2 : decode (mB m9) 2 = .ok (.invokevirtual 62, 3) := by decide +kernel
theorem d9_5 : decode (mB m9) 5 = .ok (.ifCond .ne 5, 3) := by decide +kernel
theorem d9_8 : decode (mB m9) 8 = .ok (.iconst (-1), 1) := by decide +kernel
theorem d9_9 : decode (mB m9) 9 = .ok (.ireturn, 1) := by decide +kernel
theorem d9_10 : decode (mB m9) 10 = .ok (.aload_n 0, 1) := by decide +kernel
theorem d9_11 : decode (mB m9) 11 = .ok (.getfield 7, 3) := by decide +kernel
theorem d9_14 : decode (mB m9) 14 = .ok (.iload_n 1, 1) := by decide +kernel
theorem d9_15 : decode (mB m9) 15 = .ok (.baload, 1) := by decide +kernel
theorem d9_16 : decode (mB m9) 16 = .ok (.ireturn, 1) := by decide +kernel
theorem d10_0 : decode (mB m10) 0 = .ok (.lload_n 1, 1) := by decide +kernel
theorem d10_1 : decode (mB m10) 1 = .ok (.lload_n 1, 1) := by decide +kernel
theorem d10_2 : decode (mB m10) 2 = .ok (.iconst 1, 1) := by decide +kernel
theorem d10_3 : decode (mB m10) 3 = .ok (.lushr, 1) := by decide +kernel
theorem d10_4 : decode (mB m10) 4 = .ok (.ldc2_w 162, 3) := by decide +kernel
theorem d10_7 : decode (mB m10) 7 = .ok (.land, 1) := by decide +kernel
theorem d10_8 : decode (mB m10) 8 = .ok (.lsub, 1) := by decide +kernel
theorem d10_9 : decode (mB m10) 9 = .ok (.lstore_n 3, 1) := by decide +kernel
theorem d10_10 : decode (mB m10) 10 = .ok (.lload_n 3, 1) := by decide +kernel
theorem d10_11 : decode (mB m10) 11 = .ok (.ldc2_w 192, 3) := by decide +kernel
theorem d10_14 : decode (mB m10) 14 = .ok (.land, 1) := by decide +kernel
theorem d10_15 : decode (mB m10) 15 = .ok (.lload_n 3, 1) := by decide +kernel
theorem d10_16 : decode (mB m10) 16 = .ok (.iconst 2, 1) := by decide +kernel
theorem d10_17 : decode (mB m10) 17 = .ok (.lushr, 1) := by decide +kernel
theorem d10_18 : decode (mB m10) 18 = .ok (.ldc2_w 192, 3) := by decide +kernel
theorem d10_21 : decode (mB m10) 21 = .ok (.land, 1) := by decide +kernel
theorem d10_22 : decode (mB m10) 22 = .ok (.ladd, 1) := by decide +kernel
theorem d10_23 : decode (mB m10) 23 = .ok (.lstore_n 3, 1) := by decide +kernel
theorem d10_24 : decode (mB m10) 24 = .ok (.lload_n 3, 1) := by decide +kernel
theorem d10_25 : decode (mB m10) 25 = .ok (.lload_n 3, 1) := by decide +kernel
theorem d10_26 : decode (mB m10) 26 = .ok (.iconst 4, 1) := by decide +kernel
theorem d10_27 : decode (mB m10) 27 = .ok (.lushr, 1) := by decide +kernel
theorem d10_28 : decode (mB m10) 28 = .ok (.ladd, 1) := by decide +kernel
theorem d10_29 : decode (mB m10) 29 = .ok (.ldc2_w 194, 3) := by decide +kernel
theorem d10_32 : decode (mB m10) 32 = .ok (.land, 1) := by decide +kernel
theorem d10_33 : decode (mB m10) 33 = .ok (.lstore_n 3, 1) := by decide +kernel
theorem d10_34 : decode (mB m10) 34 = .ok (.lload_n 3, 1) := by decide +kernel
theorem d10_35 : decode (mB m10) 35 = .ok (.ldc2_w 166, 3) := by decide +kernel
theorem d10_38 : decode (mB m10) 38 = .ok (.lmul, 1) := by decide +kernel
theorem d10_39 : decode (mB m10) 39 = .ok (.bipush 56, 2) := by decide +kernel
theorem d10_41 : decode (mB m10) 41 = .ok (.lushr, 1) := by decide +kernel
theorem d10_42 : decode (mB m10) 42 = .ok (.l2i, 1) := by decide +kernel
theorem d10_43 : decode (mB m10) 43 = .ok (.ireturn, 1) := by decide +kernel
theorem d11_0 : decode (mB m11) 0 = .ok (.aload_n 0, 1) := by decide +kernel
theorem d11_1 : decode (mB m11) 1 = .ok (.aload_n 0, 1) := by decide +kernel
theorem d11_2 : decode (mB m11) 2 = .ok (.getfield 54, 3) := by decide +kernel
theorem d11_5 : decode (mB m11) 5 = .ok (.invokevirtual 123, 3) := by decide +kernel
theorem d11_8 : decode (mB m11) 8 = .ok (.ireturn, 1) := by decide +kernel
theorem d12_0 : decode (mB m12) 0 = .ok (.aload_n 0, 1) := by decide +kernel
theorem d12_1 : decode (mB m12) 1 = .ok (.iload_n 1, 1) := by decide +kernel
theorem d12_2 : decode (mB m12) 2 = .ok (.iload_n 2, 1) := by decide +kernel
theorem d12_3 : decode (mB m12) 3 = .ok (.invokevirtual 76, 3) := by decide +kernel
theorem d12_6 : decode (mB m12) 6 = .ok (.ifCond .ne 5, 3) := by decide +kernel
theorem d12_9 : decode (mB m12) 9 = .ok (.iconst (-1), 1) := by decide +kernel
theorem d12_10 : decode (mB m12) 10 = .ok (.ireturn, 1) := by decide +kernel
theorem d12_11 : decode (mB m12) 11 = .ok (.aload_n 0, 1) := by decide +kernel
theorem d12_12 : decode (mB m12) 12 = .ok (.iload_n 1, 1) := by decide +kernel
theorem d12_13 : decode (mB m12) 13 = .ok (.iload_n 2, 1) := by decide +kernel
theorem d12_14 : decode (mB m12) 14 = .ok (.invokevirtual 66, 3) := by decide +kernel
theorem d12_17 : decode (mB m12) 17 = .ok (.istore_n 3, 1) := by decide +kernel
theorem d12_18 : decode (mB m12) 18 = .ok (.aload_n 0, 1) := by decide +kernel
theorem d12_19 : decode (mB m12) 19 = .ok (.getfield 20, 3) := by decide +kernel
theorem d12_22 : decode (mB m12) 22 = .ok (.iload_n 3, 1) := by decide +kernel
theorem d12_23 : decode (mB m12) 23 = .ok (.iaload, 1) := by decide +kernel
theorem d12_24 : decode (mB m12) 24 = .ok (.ifCond .lt 6, 3) := by decide +kernel
theorem d12_27 : decode (mB m12) 27 = .ok (.bipush (-2), 2) := by decide +kernel
theorem d12_29 : decode (mB m12) 29 = .ok (.ireturn, 1) := by decide +kernel
theorem d12_30 : decode (mB m12) 30 = .ok (.iconst 0, 1) := by decide +kernel
theorem d12_31 : decode (mB m12) 31 = .ok (.ireturn, 1) := by decide +kernel
theorem d13_0 : decode (mB m13) 0 = .ok (.lload_n 1, 1) := by decide +kernel
theorem d13_1 : decode (mB m13) 1 = .ok (.lconst 0, 1) := by decide +kernel
theorem d13_2 : decode (mB m13) 2 = .ok (.lcmp, 1) := by decide +kernel
theorem d13_3 : decode (mB m13) 3 = .ok (.ifCond .ne 5, 3) := by decide +kernel
theorem d13_6 : decode (mB m13) 6 = .ok (.iconst (-1), 1) := by decide +kernel
theorem d13_7 : decode (mB m13) 7 = .ok (.ireturn, 1) := by decide +kernel
theorem d13_8 : decode (mB m13) 8 = .ok (.iconst 0, 1) := by decide +kernel
theorem d13_9 : decode (mB m13) 9 = .ok (.istore_n 3, 1) := by decide +kernel
theorem d13_10 : decode (mB m13) 10 = .ok (.lload_n 1, 1) := by decide +kernel
theorem d13_11 : decode (mB m13) 11 = .ok (.lstore 4, 2) := by decide +kernel
theorem d13_13 : decode (mB m13) 13 = .ok (.lload 4, 2) := by decide +kernel
theorem d13_15 : decode (mB m13) 15 = .ok (.ldc2_w 182, 3) := by decide +kernel
theorem d13_18 : decode (mB m13) 18 = .ok (.land, 1) := by decide +kernel
theorem d13_19 : decode (mB m13) 19 = .ok (.lconst 0, 1) := by decide +kernel
theorem d13_20 : decode (mB m13) 20 = .ok (.lcmp, 1) := by decide +kernel
theorem d13_21 : decode (mB m13) 21 = .ok (.ifCond .ne 13, 3) := by decide +kernel
theorem d13_24 : decode (mB m13) 24 = .ok (.iinc 3 32, 3) := by decide +kernel
theorem d13_27 : decode (mB m13) 27 = .ok (.lload 4, 2) := by decide +kernel
theorem d13_29 : decode (mB m13) 29 = .ok (.bipush 32, 2) := by decide +kernel
theorem d13_31 : decode (mB m13) 31 = .ok (.lushr, 1) := by decide +kernel
theorem d13_32 : decode (mB m13) 32 = .ok (.lstore 4, 2) := by decide +kernel
theorem d13_34 : decode (mB m13) 34 = .ok (.lload 4, 2) := by decide +kernel
theorem d13_36 : decode (mB m13) 36 = .ok (.ldc2_w 184, 3) := by decide +kernel
theorem d13_39 : decode (mB m13) 39 = .ok (.land, 1) := by decide +kernel
theorem d13_40 : decode (mB m13) 40 = .ok (.lconst 0, 1) := by decide +kernel
theorem d13_41 : decode (mB m13) 41 = .ok (.lcmp, 1) := by decide +kernel
theorem d13_42 : decode (mB m13) 42 = .ok (.ifCond .ne 13, 3) := by decide +kernel
theorem d13_45 : decode (mB m13) 45 = .ok (.iinc 3 16, 3) := by decide +kernel
theorem d13_48 : decode (mB m13) 48 = .ok (.lload 4, 2) := by decide +kernel
theorem d13_50 : decode (mB m13) 50 = .ok (.bipush 16, 2) := by decide +kernel
theorem d13_52 : decode (mB m13) 52 = .ok (.lushr, 1) := by decide +kernel
theorem d13_53 : decode (mB m13) 53 = .ok (.lstore 4, 2) := by decide +kernel
theorem d13_55 : decode (mB m13) 55 = .ok (.lload 4, 2) := by decide +kernel
theorem d13_57 : decode (mB m13) 57 = .ok (.ldc2_w 186, 3) := by decide +kernel
theorem d13_60 : decode (mB m13) 60 = .ok (.land, 1) := by decide +kernel
theorem d13_61 : decode (mB m13) 61 = .ok (.lconst 0, 1) := by decide +kernel
theorem d13_62 : decode (mB m13) 62 = .ok (.lcmp, 1) := by decide +kernel
theorem d13_63 : decode (mB m13) 63 = .ok (.ifCond .ne 13, 3) := by decide +kernel
theorem d13_66 : decode (mB m13) 66 = .ok (.iinc 3 8, 3) := by decide +kernel
theorem d13_69 : decode (mB m13) 69 = .ok (.lload 4, 2) := by decide +kernel
theorem d13_71 : decode (mB m13) 71 = .ok (.bipush 8, 2) := by decide +kernel
theorem d13_73 : decode (mB m13) 73 = .ok (.lushr, 1) := by decide +kernel
theorem d13_74 : decode (mB m13) 74 = .ok (.lstore 4, 2) := by decide +kernel
theorem d13_76 : decode (mB m13) 76 = .ok (.lload 4, 2) := by decide +kernel
theorem d13_78 : decode (mB m13) 78 = .ok (.ldc2_w 188, 3) := by decide +kernel
theorem d13_81 : decode (mB m13) 81 = .ok (.land, 1) := by decide +kernel
theorem d13_82 : decode (mB m13) 82 = .ok (.lconst 0, 1) := by decide +kernel
theorem d13_83 : decode (mB m13) 83 = .ok (.lcmp, 1) := by decide +kernel
theorem d13_84 : decode (mB m13) 84 = .ok (.ifCond .ne 12, 3) := by decide +kernel
theorem d13_87 : decode (mB m13) 87 = .ok (.iinc 3 4, 3) := by decide +kernel
theorem d13_90 : decode (mB m13) 90 = .ok (.lload 4, 2) := by decide +kernel
theorem d13_92 : decode (mB m13) 92 = .ok (.iconst 4, 1) := by decide +kernel
theorem d13_93 : decode (mB m13) 93 = .ok (.lushr, 1) := by decide +kernel
theorem d13_94 : decode (mB m13) 94 = .ok (.lstore 4, 2) := by decide +kernel
theorem d13_96 : decode (mB m13) 96 = .ok (.lload 4, 2) := by decide +kernel
theorem d13_98 : decode (mB m13) 98 = .ok (.ldc2_w 190, 3) := by decide +kernel
theorem d13_101 : decode (mB m13) 101 = .ok (.land, 1) := by decide +kernel
theorem d13_102 : decode (mB m13) 102 = .ok (.lconst 0, 1) := by decide +kernel
theorem d13_103 : decode (mB m13) 103 = .ok (.lcmp, 1) := by decide +kernel
theorem d13_104 : decode (mB m13) 104 = .ok (.ifCond .ne 12, 3) := by decide +kernel
theorem d13_107 : decode (mB m13) 107 = .ok (.iinc 3 2, 3) := by decide +kernel
theorem d13_110 : decode (mB m13) 110 = .ok (.lload 4, 2) := by decide +kernel
theorem d13_112 : decode (mB m13) 112 = .ok (.iconst 2, 1) := by decide +kernel
theorem d13_113 : decode (mB m13) 113 = .ok (.lushr, 1) := by decide +kernel
theorem d13_114 : decode (mB m13) 114 = .ok (.lstore 4, 2) := by decide +kernel
theorem d13_116 : decode (mB m13) 116 = .ok (.lload 4, 2) := by decide +kernel
theorem d13_118 : decode (mB m13) 118 = .ok (.lconst 1, 1) := by decide +kernel
theorem d13_119 : decode (mB m13) 119 = .ok (.land, 1) := by decide +kernel
theorem d13_120 : decode (mB m13) 120 = .ok (.lconst 0, 1) := by decide +kernel
theorem d13_121 : decode (mB m13) 121 = .ok (.lcmp, 1) := by decide +kernel
theorem d13_122 : decode (mB m13) 122 = .ok (.ifCond .ne 6, 3) := by decide +kernel
theorem d13_125 : decode (mB m13) 125 = .ok (.iinc 3 1, 3) := by decide +kernel
theorem d13_128 : decode (mB m13) 128 = .ok (.iload_n 3, 1) := by decide +kernel
theorem d13_129 : decode (mB m13) 129 = .ok (.ireturn, 1) := by decide +kernel
theorem d14_0 : decode (mB m14) 0 = .ok (.iload_n 1, 1) := by decide +kernel
theorem d14_1 : decode (mB m14) 1 = .ok (.ifCond .lt 9, 3) := by decide +kernel
theorem d14_4 : decode (mB m14) 4 = .ok (.iload_n 1, 1) := by decide +kernel
theorem d14_5 : decode (mB m14) 5 = .ok (.bipush 63, 2) := by decide +kernel
theorem d14_7 : decode (mB m14) 7 = .ok (.if_icmp .le 5, 3) := by decide +kernel
theorem d14_10 : decode (mB m14) 10 = .ok (.lconst 0, 1) := by decide +kernel
theorem d14_11 : decode (mB m14) 11 = .ok (.lreturn, 1) := by decide +kernel
theorem d14_12 : decode (mB m14) 12 = .ok (.lconst 1, 1) := by decide +kernel
theorem d14_13 : decode (mB m14) 13 = .ok (.iload_n 1, 1) := by decide +kernel
theorem d14_14 : decode (mB m14) 14 = .ok (.lshl, 1) := by decide +kernel
theorem d14_15 : decode (mB m14) 15 = .ok (.lreturn, 1) := by decide +kernel
theorem d15_0 : decode (mB m15) 0 = .ok (.aload_n 0, 1) := by decide +kernel
theorem d15_1 : decode (mB m15) 1 = .ok (.iload_n 1, 1) := by decide +kernel
theorem d15_2 : decode (mB m15) 2 = .ok (.invokevirtual 62, 3) := by decide +kernel
theorem d15_5 : decode (mB m15) 5 = .ok (.ifCond .ne 4, 3) := by decide +kernel
theorem d15_8 : decode (mB m15) 8 = .ok (.return_, 1) := by decide +kernel
theorem d15_9 : decode (mB m15) 9 = .ok (.aload_n 0, 1) := by decide +kernel
theorem d15_10 : decode (mB m15) 10 = .ok (.iload_n 1, 1) := by decide +kernel
theorem d15_11 : decode (mB m15) 11 = .ok (.invokevirtual 145, 3) := by decide +kernel
theorem d15_14 : decode (mB m15) 14 = .ok (.lstore_n 3, 1) := by decide +kernel
theorem d15_15 : decode (mB m15) 15 = .ok (.aload_n 0, 1) := by decide +kernel
theorem d15_16 : decode (mB m15) 16 = .ok (.aload_n 0, 1) := by decide +kernel
theorem d15_17 : decode (mB m15) 17 = .ok (.getfield 54, 3) := by decide +kernel
theorem d15_20 : decode (mB m15) 20 = .ok (.lload_n 3, 1) := by decide +kernel
theorem d15_21 : decode (mB m15) 21 = .ok (.ldc2_w 148, 3) := by decide +kernel
theorem d15_24 : decode (mB m15) 24 = .ok (.lxor, 1) := by decide +kernel
theorem d15_25 : decode (mB m15) 25 = .ok (.land, 1) := by decide +kernel
theorem d15_26 : decode (mB m15) 26 = .ok (.putfield 54, 3) := by decide +kernel
theorem d15_29 : decode (mB m15) 29 = .ok (.aload_n 0, 1) := by decide +kernel
theorem d15_30 : decode (mB m15) 30 = .ok (.aload_n 0, 1) := by decide +kernel
theorem d15_31 : decode (mB m15) 31 = .ok (.getfield 132, 3) := by decide +kernel
theorem d15_34 : decode (mB m15) 34 = .ok (.lload_n 3, 1) := by decide +kernel
theorem d15_35 : decode (mB m15) 35 = .ok (.ldc2_w 148, 3) := by decide +kernel
theorem d15_38 : decode (mB m15) 38 = .ok (.lxor, 1) := by decide +kernel
theorem d15_39 : decode (mB m15) 39 = .ok (.land, 1) := by decide +kernel
theorem d15_40 : decode (mB m15) 40 = .ok (.putfield 132, 3) := by decide +kernel
theorem d15_43 : decode (mB m15) 43 = .ok (.aload_n 0, 1) := by decide +kernel
theorem d15_44 : decode (mB m15) 44 = .ok (.aload_n 0, 1) := by decide +kernel
theorem d15_45 : decode (mB m15) 45 = .ok (.getfield 135, 3) := by decide +kernel
theorem d15_48 : decode (mB m15) 48 = .ok (.lload_n 3, 1) := by decide +kernel
theorem d15_49 : decode (mB m15) 49 = .ok (.ldc2_w 148, 3) := by decide +kernel
theorem d15_52 : decode (mB m15) 52 = .ok (.lxor, 1) := by decide +kernel
theorem d15_53 : decode (mB m15) 53 = .ok (.land, 1) := by decide +kernel
theorem d15_54 : decode (mB m15) 54 = .ok (.putfield 135, 3) := by decide +kernel
theorem d15_57 : decode (mB m15) 57 = .ok (.aload_n 0, 1) := by decide +kernel
theorem d15_58 : decode (mB m15) 58 = .ok (.aload_n 0, 1) := by decide +kernel
theorem d15_59 : decode (mB m15) 59 = .ok (.getfield 138, 3) := by decide +kernel
theorem d15_62 : decode (mB m15) 62 = .ok (.lload_n 3, 1) := by decide +kernel
theorem d15_63 : decode (mB m15) 63 = .ok (.ldc2_w 148, 3) := by decide +kernel
theorem d15_66 : decode (mB m15) 66 = .ok (.lxor, 1) := by decide +kernel
theorem d15_67 : decode (mB m15) 67 = .ok (.land, 1) := by decide +kernel
theorem d15_68 : decode (mB m15) 68 = .ok (.putfield 138, 3) := by decide +kernel
theorem d15_71 : decode (mB m15) 71 = .ok (.iload_n 2, 1) := by decide +kernel
theorem d15_72 : decode (mB m15) 72 = .ok (.ifCond .ne 16, 3) := by decide +kernel
theorem d15_75 : decode (mB m15) 75 = .ok (.aload_n 0, 1) := by decide +kernel
theorem d15_76 : decode (mB m15) 76 = .ok (.aload_n 0, 1) := by decide +kernel
theorem d15_77 : decode (mB m15) 77 = .ok (.getfield 54, 3) := by decide +kernel
theorem d15_80 : decode (mB m15) 80 = .ok (.lload_n 3, 1) := by decide +kernel
theorem d15_81 : decode (mB m15) 81 = .ok (.lor, 1) := by decide +kernel
theorem d15_82 : decode (mB m15) 82 = .ok (.putfield 54, 3) := by decide +kernel
theorem d15_85 : decode (mB m15) 85 = .ok (.goto 49, 3) := by decide +kernel
theorem d15_88 : decode (mB m15) 88 = .ok (.iload_n 2, 1) := by decide +kernel
theorem d15_89 : decode (mB m15) 89 = .ok (.iconst 1, 1) := by decide +kernel
theorem d15_90 : decode (mB m15) 90 = .ok (.if_icmp .ne 16, 3) := by decide +kernel
theorem d15_93 : decode (mB m15) 93 = .ok (.aload_n 0, 1) := by decide +kernel
theorem d15_94 : decode (mB m15) 94 = .ok (.aload_n 0, 1) := by decide +kernel
theorem d15_95 : decode (mB m15) 95 = .ok (.getfield 132, 3) := by decide +kernel
theorem d15_98 : decode (mB m15) 98 = .ok (.lload_n 3, 1) := by decide +kernel
theorem d15_99 : decode (mB m15) 99 = .ok (.lor, 1) := by decide +kernel
theorem d15_100 : decode (mB m15) 100 = .ok (.putfield 132, 3) := by decide +kernel
theorem d15_103 : decode (mB m15) 103 = .ok (.goto 31, 3) := by decide +kernel
theorem d15_106 : decode (mB m15) 106 = .ok (.iload_n 2, 1) := by decide +kernel
theorem d15_107 : decode (mB m15) 107 = .ok (.iconst 2, 1) := by decide +kernel
theorem d15_108 : decode (mB m15) 108 = .ok (.if_icmp .ne 16, 3) := by decide +kernel
theorem d15_111 : decode (mB m15) 111 = .ok (.aload_n 0, 1) := by decide +kernel
theorem d15_112 : decode (mB m15) 112 = .ok (.aload_n 0, 1) := by decide +kernel
theorem d15_113 : decode (mB m15) 113 = .ok (.getfield 135, 3) := by decide +kernel
theorem d15_116 : decode (mB m15) 116 = .ok (.lload_n 3, 1) := by decide +kernel
theorem d15_117 : decode (mB m15) 117 = .ok (.lor, 1) := by decide +kernel
theorem d15_118 : decode (mB m15) 118 = .ok (.putfield 135, 3) := by decide +kernel
theorem d15_121 : decode (mB m15) 121 = .ok (.goto 13, 3) := by decide +kernel
theorem d15_124 : decode (mB m15) 124 = .ok (.aload_n 0, 1) := by decide +kernel
theorem d15_125 : decode (mB m15) 125 = .ok (.aload_n 0, 1) := by decide +kernel
theorem d15_126 : decode (mB m15) 126 = .ok (.getfield 138, 3) := by decide +kernel
theorem d15_129 : decode (mB m15) 129 = .ok (.lload_n 3, 1) := by decide +kernel
theorem d15_130 : decode (mB m15) 130 = .ok (.lor, 1) := by decide +kernel
theorem d15_131 : decode (mB m15) 131 = .ok (.putfield 138, 3) := by decide +kernel
theorem d15_134 : decode (mB m15) 134 = .ok (.aload_n 0, 1) := by decide +kernel
theorem d15_135 : decode (mB m15) 135 = .ok (.getfield 7, 3) := by decide +kernel
theorem d15_138 : decode (mB m15) 138 = .ok (.iload_n 1, 1) := by decide +kernel
theorem d15_139 : decode (mB m15) 139 = .ok (.iload_n 2, 1) := by decide +kernel
theorem d15_140 : decode (mB m15) 140 = .ok (.i2b, 1) := by decide +kernel
theorem d15_141 : decode (mB m15) 141 = .ok (.bastore, 1) := by decide +kernel
theorem d15_142 : decode (mB m15) 142 = .ok (.aload_n 0, 1) := by decide +kernel
theorem d15_143 : decode (mB m15) 143 = .ok (.iconst 1, 1) := by decide +kernel
theorem d15_144 : decode (mB m15) 144 = .ok (.putfield 141, 3) := by decide +kernel
theorem d15_147 : decode (mB m15) 147 = .ok (.return_, 1) := by decide +kernel
theorem d16_0 : decode (mB m16) 0 = .ok (.aload_n 0, 1) := by decide +kernel
theorem d16_1 : decode (mB m16) 1 = .ok (.getfield 23, 3) := by decide +kernel
theorem d16_4 : decode (mB m16) 4 = .ok (.iload_n 2, 1) := by decide +kernel
theorem d16_5 : decode (mB m16) 5 = .ok (.iaload, 1) := by decide +kernel
theorem d16_6 : decode (mB m16) 6 = .ok (.istore_n 3, 1) := by decide +kernel
theorem d16_7 : decode (mB m16) 7 = .ok (.aload_n 0, 1) := by decide +kernel
theorem d16_8 : decode (mB m16) 8 = .ok (.getfield 29, 3) := by decide +kernel
theorem d16_11 : decode (mB m16) 11 = .ok (.iload_n 1, 1) := by decide +kernel
theorem d16_12 : decode (mB m16) 12 = .ok (.iconst (-1), 1) := by decide +kernel
theorem d16_13 : decode (mB m16) 13 = .ok (.iastore, 1) := by decide +kernel
theorem d16_14 : decode (mB m16) 14 = .ok (.aload_n 0, 1) := by decide +kernel
theorem d16_15 : decode (mB m16) 15 = .ok (.getfield 26, 3) := by decide +kernel
theorem d16_18 : decode (mB m16) 18 = .ok (.iload_n 1, 1) := by decide +kernel
theorem d16_19 : decode (mB m16) 19 = .ok (.iload_n 3, 1) := by decide +kernel
theorem d16_20 : decode (mB m16) 20 = .ok (.iastore, 1) := by decide +kernel
theorem d16_21 : decode (mB m16) 21 = .ok (.iload_n 3, 1) := by decide +kernel
theorem d16_22 : decode (mB m16) 22 = .ok (.ifCond .lt 16, 3) := by decide +kernel
theorem d16_25 : decode (mB m16) 25 = .ok (.iload_n 3, 1) := by decide +kernel
theorem d16_26 : decode (mB m16) 26 = .ok (.bipush 64, 2) := by decide +kernel
theorem d16_28 : decode (mB m16) 28 = .ok (.if_icmp .ge 10, 3) := by decide +kernel
theorem d16_31 : decode (mB m16) 31 = .ok (.aload_n 0, 1) := by decide +kernel
theorem d16_32 : decode (mB m16) 32 = .ok (.getfield 29, 3) := by decide +kernel
theorem d16_35 : decode (mB m16) 35 = .ok (.iload_n 3, 1) := by decide +kernel
theorem d16_36 : decode (mB m16) 36 = .ok (.iload_n 1, 1) := by decide +kernel
theorem d16_37 : decode (mB m16) 37 = .ok (.iastore, 1) := by decide +kernel
theorem d16_38 : decode (mB m16) 38 = .ok (.aload_n 0, 1) := by decide +kernel
theorem d16_39 : decode (mB m16) 39 = .ok (.getfield 23, 3) := by decide +kernel
theorem d16_42 : decode (mB m16) 42 = .ok (.iload_n 2, 1) := by decide +kernel
theorem d16_43 : decode (mB m16) 43 = .ok (.iload_n 1, 1) := by decide +kernel
theorem d16_44 : decode (mB m16) 44 = .ok (.iastore, 1) := by decide +kernel
theorem d16_45 : decode (mB m16) 45 = .ok (.aload_n 0, 1) := by decide +kernel
theorem d16_46 : decode (mB m16) 46 = .ok (.getfield 20, 3) := by decide +kernel
theorem d16_49 : decode (mB m16) 49 = .ok (.iload_n 1, 1) := by decide +kernel
theorem d16_50 : decode (mB m16) 50 = .ok (.iload_n 2, 1) := by decide +kernel
theorem d16_51 : decode (mB m16) 51 = .ok (.iastore, 1) := by decide +kernel
theorem d16_52 : decode (mB m16) 52 = .ok (.return_, 1) := by decide +kernel
theorem d17_0 : decode (mB m17) 0 = .ok (.iload_n 1, 1) := by decide +kernel
theorem d17_1 : decode (mB m17) 1 = .ok (.ifCond .lt 17, 3) := by decide +kernel
theorem d17_4 : decode (mB m17) 4 = .ok (.iload_n 1, 1) := by decide +kernel
theorem d17_5 : decode (mB m17) 5 = .ok (.bipush 64, 2) := by decide +kernel
theorem d17_7 : decode (mB m17) 7 = .ok (.if_icmp .ge 11, 3) := by decide +kernel
theorem d17_10 : decode (mB m17) 10 = .ok (.aload_n 0, 1) := by decide +kernel
theorem d17_11 : decode (mB m17) 11 = .ok (.iload_n 2, 1) := by decide +kernel
theorem d17_12 : decode (mB m17) 12 = .ok (.invokevirtual 62, 3) := by decide +kernel
theorem d17_15 : decode (mB m17) 15 = .ok (.ifCond .ne 4, 3) := by decide +kernel
theorem d17_18 : decode (mB m17) 18 = .ok (.return_, 1) := by decide +kernel
theorem d17_19 : decode (mB m17) 19 = .ok (.aload_n 0, 1) := by decide +kernel
theorem d17_20 : decode (mB m17) 20 = .ok (.iload_n 1, 1) := by decide +kernel
theorem d17_21 : decode (mB m17) 21 = .ok (.iload_n 2, 1) := by decide +kernel
theorem d17_22 : decode (mB m17) 22 = .ok (.invokevirtual 153, 3) := by decide +kernel
theorem d17_25 : decode (mB m17) 25 = .ok (.aload_n 0, 1) := by decide +kernel
theorem d17_26 : decode (mB m17) 26 = .ok (.getfield 17, 3) := by decide +kernel
theorem d17_29 : decode (mB m17) 29 = .ok (.iload_n 2, 1) := by decide +kernel
theorem d17_30 : decode (mB m17) 30 = .ok (.aload_n 0, 1) := by decide +kernel
theorem d17_31 : decode (mB m17) 31 = .ok (.getfield 17, 3) := by decide +kernel
theorem d17_34 : decode (mB m17) 34 = .ok (.iload_n 2, 1) := by decide +kernel
theorem d17_35 : decode (mB m17) 35 = .ok (.iaload, 1) := by decide +kernel
theorem d17_36 : decode (mB m17) 36 = .ok (.iconst 1, 1) := by decide +kernel
theorem d17_37 : decode (mB m17) 37 = .ok (.iadd, 1) := by decide +kernel
theorem d17_38 : decode (mB m17) 38 = .ok (.iastore, 1) := by decide +kernel
theorem d17_39 : decode (mB m17) 39 = .ok (.return_, 1) := by decide +kernel
theorem d18_0 : decode (mB m18) 0 = .ok (.aload_n 0, 1) := by decide +kernel
theorem d18_1 : decode (mB m18) 1 = .ok (.iload_n 1, 1) := by decide +kernel
theorem d18_2 : decode (mB m18) 2 = .ok (.iload_n 2, 1) := by decide +kernel
theorem d18_3 : decode (mB m18) 3 = .ok (.invokevirtual 50, 3) := by decide +kernel
theorem d18_6 : decode (mB m18) 6 = .ok (.istore 4, 2) := by decide +kernel
theorem d18_8 : decode (mB m18) 8 = .ok (.iload 4, 2) := by decide +kernel
theorem d18_10 : decode (mB m18) 10 = .ok (.ifCond .eq 6, 3) := by decide +kernel
theorem d18_13 : decode (mB m18) 13 = .ok (.iload 4, 2) := by decide +kernel
theorem d18_15 : decode (mB m18) 15 = .ok (.ireturn, 1) := by decide +kernel
theorem d18_16 : decode (mB m18) 16 = .ok (.aload_n 0, 1) := by decide +kernel
theorem d18_17 : decode (mB m18) 17 = .ok (.getfield 54, 3) := by decide +kernel
theorem d18_20 : decode (mB m18) 20 = .ok (.lconst 0, 1) := by decide +kernel
theorem d18_21 : decode (mB m18) 21 = .ok (.lcmp, 1) := by decide +kernel
theorem d18_22 : decode (mB m18) 22 = .ok (.ifCond .ne 6, 3) := by decide +kernel
theorem d18_25 : decode (mB m18) 25 = .ok (.bipush (-4), 2) := by decide +kernel
theorem d18_27 : decode (mB m18) 27 = .ok (.ireturn, 1) := by decide +kernel
theorem d18_28 : decode (mB m18) 28 = .ok (.aload_n 0, 1) := by decide +kernel
theorem d18_29 : decode (mB m18) 29 = .ok (.aload_n 0, 1) := by decide +kernel
theorem d18_30 : decode (mB m18) 30 = .ok (.getfield 54, 3) := by decide +kernel
theorem d18_33 : decode (mB m18) 33 = .ok (.invokevirtual 58, 3) := by decide +kernel
theorem d18_36 : decode (mB m18) 36 = .ok (.istore 5, 2) := by decide +kernel
theorem d18_38 : decode (mB m18) 38 = .ok (.aload_n 0, 1) := by decide +kernel
theorem d18_39 : decode (mB m18) 39 = .ok (.iload 5, 2) := by decide +kernel
theorem d18_41 : decode (mB m18) 41 = .ok (.invokevirtual 62, 3) := by decide +kernel
theorem d18_44 : decode (mB m18) 44 = .ok (.ifCond .ne 6, 3) := by decide +kernel
theorem d18_47 : decode (mB m18) 47 = .ok (.bipush (-4), 2) := by decide +kernel
theorem d18_49 : decode (mB m18) 49 = .ok (.ireturn, 1) := by decide +kernel
theorem d18_50 : decode (mB m18) 50 = .ok (.aload_n 0, 1) := by decide +kernel
theorem d18_51 : decode (mB m18) 51 = .ok (.iload_n 1, 1) := by decide +kernel
theorem d18_52 : decode (mB m18) 52 = .ok (.iload_n 2, 1) := by decide +kernel
theorem d18_53 : decode (mB m18) 53 = .ok (.invokevirtual 66, 3) := by decide +kernel
theorem d18_56 : decode (mB m18) 56 = .ok (.istore 6, 2) := by decide +kernel
theorem d18_58 : decode (mB m18) 58 = .ok (.aload_n 0, 1) := by decide +kernel
theorem d18_59 : decode (mB m18) 59 = .ok (.iload 5, 2) := by decide +kernel
theorem d18_61 : decode (mB m18) 61 = .ok (.iconst 1, 1) := by decide +kernel
theorem d18_62 : decode (mB m18) 62 = .ok (.invokevirtual 69, 3) := by decide +kernel
theorem d18_65 : decode (mB m18) 65 = .ok (.aload_n 0, 1) := by decide +kernel
theorem d18_66 : decode (mB m18) 66 = .ok (.getfield 13, 3) := by decide +kernel
theorem d18_69 : decode (mB m18) 69 = .ok (.iload 5, 2) := by decide +kernel
theorem d18_71 : decode (mB m18) 71 = .ok (.iload_n 3, 1) := by decide +kernel
theorem d18_72 : decode (mB m18) 72 = .ok (.iastore, 1) := by decide +kernel
theorem d18_73 : decode (mB m18) 73 = .ok (.aload_n 0, 1) := by decide +kernel
theorem d18_74 : decode (mB m18) 74 = .ok (.getfield 17, 3) := by decide +kernel
theorem d18_77 : decode (mB m18) 77 = .ok (.iload 5, 2) := by decide +kernel
theorem d18_79 : decode (mB m18) 79 = .ok (.iconst 0, 1) := by decide +kernel
theorem d18_80 : decode (mB m18) 80 = .ok (.iastore, 1) := by decide +kernel
theorem d18_81 : decode (mB m18) 81 = .ok (.aload_n 0, 1) := by decide +kernel
theorem d18_82 : decode (mB m18) 82 = .ok (.iload 6, 2) := by decide +kernel
theorem d18_84 : decode (mB m18) 84 = .ok (.iload 5, 2) := by decide +kernel
theorem d18_86 : decode (mB m18) 86 = .ok (.invokevirtual 73, 3) := by decide +kernel
theorem d18_89 : decode (mB m18) 89 = .ok (.iload 5, 2) := by decide +kernel
theorem d18_91 : decode (mB m18) 91 = .ok (.ireturn, 1) := by decide +kernel
theorem d19_0 : decode (mB m19) 0 = .ok (.aload_n 0, 1) := by decide +kernel
theorem d19_1 : decode (mB m19) 1 = .ok (.iload_n 1, 1) := by decide +kernel
theorem d19_2 : decode (mB m19) 2 = .ok (.iload_n 2, 1) := by decide +kernel
theorem d19_3 : decode (mB m19) 3 = .ok (.invokevirtual 88, 3) := by decide +kernel
theorem d19_6 : decode (mB m19) 6 = .ok (.istore_n 3, 1) := by decide +kernel
theorem d19_7 : decode (mB m19) 7 = .ok (.iload_n 3, 1) := by decide +kernel
theorem d19_8 : decode (mB m19) 8 = .ok (.ifCond .ge 5, 3) := by decide +kernel
theorem d19_11 : decode (mB m19) 11 = .ok (.iconst 0, 1) := by decide +kernel
theorem d19_12 : decode (mB m19) 12 = .ok (.ireturn, 1) := by decide +kernel
theorem d19_13 : decode (mB m19) 13 = .ok (.aload_n 0, 1) := by decide +kernel
theorem d19_14 : decode (mB m19) 14 = .ok (.getfield 13, 3) := by decide +kernel
theorem d19_17 : decode (mB m19) 17 = .ok (.iload_n 3, 1) := by decide +kernel
theorem d19_18 : decode (mB m19) 18 = .ok (.iaload, 1) := by decide +kernel
theorem d19_19 : decode (mB m19) 19 = .ok (.ireturn, 1) := by decide +kernel
theorem d20_0 : decode (mB m20) 0 = .ok (.aload_n 0, 1) := by decide +kernel
theorem d20_1 : decode (mB m20) 1 = .ok (.iload_n 1, 1) := by decide +kernel
theorem d20_2 : decode (mB m20) 2 = .ok (.invokevirtual 62, 3) := by decide +kernel
theorem d20_5 : decode (mB m20) 5 = .ok (.ifCond .ne 5, 3) := by decide +kernel
theorem d20_8 : decode (mB m20) 8 = .ok (.iconst 0, 1) := by decide +kernel
theorem d20_9 : decode (mB m20) 9 = .ok (.ireturn, 1) := by decide +kernel
theorem d20_10 : decode (mB m20) 10 = .ok (.aload_n 0, 1) := by decide +kernel
theorem d20_11 : decode (mB m20) 11 = .ok (.getfield 17, 3) := by decide +kernel
theorem d20_14 : decode (mB m20) 14 = .ok (.iload_n 1, 1) := by decide +kernel
theorem d20_15 : decode (mB m20) 15 = .ok (.iaload, 1) := by decide +kernel
theorem d20_16 : decode (mB m20) 16 = .ok (.ireturn, 1) := by decide +kernel
theorem d21_0 : decode (mB m21) 0 = .ok (.aload_n 0, 1) := by decide +kernel
theorem d21_1 : decode (mB m21) 1 = .ok (.iload_n 1, 1) := by decide +kernel
theorem d21_2 : decode (mB m21) 2 = .ok (.invokevirtual 62, 3) := by decide +kernel
theorem d21_5 : decode (mB m21) 5 = .ok (.ifCond .ne 5, 3) := by decide +kernel
theorem d21_8 : decode (mB m21) 8 = .ok (.iconst 0, 1) := by decide +kernel
theorem d21_9 : decode (mB m21) 9 = .ok (.ireturn, 1) := by decide +kernel
theorem d21_10 : decode (mB m21) 10 = .ok (.aload_n 0, 1) := by decide +kernel
theorem d21_11 : decode (mB m21) 11 = .ok (.getfield 7, 3) := by decide +kernel
theorem d21_14 : decode (mB m21) 14 = .ok (.iload_n 1, 1) := by decide +kernel
theorem d21_15 : decode (mB m21) 15 = .ok (.baload, 1) := by decide +kernel
theorem d21_16 : decode (mB m21) 16 = .ok (.istore_n 2, 1) := by decide +kernel
theorem d21_17 : decode (mB m21) 17 = .ok (.iload_n 2, 1) := by decide +kernel
theorem d21_18 : decode (mB m21) 18 = .ok (.ifCond .eq 8, 3) := by decide +kernel
theorem d21_21 : decode (mB m21) 21 = .ok (.iload_n 2, 1) := by decide +kernel
theorem d21_22 : decode (mB m21) 22 = .ok (.iconst 3, 1) := by decide +kernel
theorem d21_23 : decode (mB m21) 23 = .ok (.if_icmp .ne 5, 3) := by decide +kernel
theorem d21_26 : decode (mB m21) 26 = .ok (.iconst 0, 1) := by decide +kernel
theorem d21_27 : decode (mB m21) 27 = .ok (.ireturn, 1) := by decide +kernel
theorem d21_28 : decode (mB m21) 28 = .ok (.aload_n 0, 1) := by decide +kernel
theorem d21_29 : decode (mB m21) 29 = .ok (.getfield 13, 3) := by decide +kernel
theorem d21_32 : decode (mB m21) 32 = .ok (.iload_n 1, 1) := by decide +kernel
theorem d21_33 : decode (mB m21) 33 = .ok (.iaload, 1) := by decide +kernel
theorem d21_34 : decode (mB m21) 34 = .ok (.ireturn, 1) := by decide +kernel
theorem d22_0 : decode (mB m22) 0 = .ok (.aload_n 0, 1) := by decide +kernel
theorem d22_1 : decode (mB m22) 1 = .ok (.iload_n 1, 1) := by decide +kernel
theorem d22_2 : decode (mB m22) 2 = .ok (.iload_n 2, 1) := by decide +kernel
theorem d22_3 : decode (mB m22) 3 = .ok (.invokevirtual 76, 3) := by decide +kernel
theorem d22_6 : decode (mB m22) 6 = .ok (.ifCond .ne 5, 3) := by decide +kernel
theorem d22_9 : decode (mB m22) 9 = .ok (.iconst (-1), 1) := by decide +kernel
theorem d22_10 : decode (mB m22) 10 = .ok (.ireturn, 1) := by decide +kernel
theorem d22_11 : decode (mB m22) 11 = .ok (.aload_n 0, 1) := by decide +kernel
theorem d22_12 : decode (mB m22) 12 = .ok (.iload_n 3, 1) := by decide +kernel
theorem d22_13 : decode (mB m22) 13 = .ok (.iload 4, 2) := by decide +kernel
theorem d22_15 : decode (mB m22) 15 = .ok (.invokevirtual 76, 3) := by decide +kernel
theorem d22_18 : decode (mB m22) 18 = .ok (.ifCond .ne 5, 3) := by decide +kernel
theorem d22_21 : decode (mB m22) 21 = .ok (.iconst (-1), 1) := by decide +kernel
theorem d22_22 : decode (mB m22) 22 = .ok (.ireturn, 1) := by decide +kernel
theorem d22_23 : decode (mB m22) 23 = .ok (.aload_n 0, 1) := by decide +kernel
theorem d22_24 : decode (mB m22) 24 = .ok (.iload_n 1, 1) := by decide +kernel
theorem d22_25 : decode (mB m22) 25 = .ok (.iload_n 2, 1) := by decide +kernel
theorem d22_26 : decode (mB m22) 26 = .ok (.invokevirtual 66, 3) := by decide +kernel
theorem d22_29 : decode (mB m22) 29 = .ok (.istore 5, 2) := by decide +kernel
theorem d22_31 : decode (mB m22) 31 = .ok (.aload_n 0, 1) := by decide +kernel
theorem d22_32 : decode (mB m22) 32 = .ok (.getfield 20, 3) := by decide +kernel
theorem d22_35 : decode (mB m22) 35 = .ok (.iload 5, 2) := by decide +kernel
theorem d22_37 : decode (mB m22) 37 = .ok (.iaload, 1) := by decide +kernel
theorem d22_38 : decode (mB m22) 38 = .ok (.ifCond .lt 6, 3) := by decide +kernel
theorem d22_41 : decode (mB m22) 41 = .ok (.bipush (-2), 2) := by decide +kernel
theorem d22_43 : decode (mB m22) 43 = .ok (.ireturn, 1) := by decide +kernel
theorem d22_44 : decode (mB m22) 44 = .ok (.aload_n 0, 1) := by decide +kernel
theorem d22_45 : decode (mB m22) 45 = .ok (.iload_n 3, 1) := by decide +kernel
theorem d22_46 : decode (mB m22) 46 = .ok (.iload 4, 2) := by decide +kernel
theorem d22_48 : decode (mB m22) 48 = .ok (.invokevirtual 66, 3) := by decide +kernel
theorem d22_51 : decode (mB m22) 51 = .ok (.istore 6, 2) := by decide +kernel
theorem d22_53 : decode (mB m22) 53 = .ok (.aload_n 0, 1) := by decide +kernel
theorem d22_54 : decode (mB m22) 54 = .ok (.getfield 20, 3) := by decide +kernel
theorem d22_57 : decode (mB m22) 57 = .ok (.iload 6, 2) := by decide +kernel
theorem d22_59 : decode (mB m22) 59 = .ok (.iaload, 1) := by decide +kernel
theorem d22_60 : decode (mB m22) 60 = .ok (.istore 7, 2) := by decide +kernel
theorem d22_62 : decode (mB m22) 62 = .ok (.aload_n 0, 1) := by decide +kernel
theorem d22_63 : decode (mB m22) 63 = .ok (.iload 7, 2) := by decide +kernel
theorem d22_65 : decode (mB m22) 65 = .ok (.invokevirtual 62, 3) := by decide +kernel
theorem d22_68 : decode (mB m22) 68 = .ok (.ifCond .ne 6, 3) := by decide +kernel
theorem d22_71 : decode (mB m22) 71 = .ok (.bipush (-3), 2) := by decide +kernel
theorem d22_73 : decode (mB m22) 73 = .ok (.ireturn, 1) := by decide +kernel
theorem d22_74 : decode (mB m22) 74 = .ok (.aload_n 0, 1) := by decide +kernel
theorem d22_75 : decode (mB m22) 75 = .ok (.iload 5, 2) := by decide +kernel
theorem d22_77 : decode (mB m22) 77 = .ok (.iload 7, 2) := by decide +kernel
theorem d22_79 : decode (mB m22) 79 = .ok (.invokevirtual 73, 3) := by decide +kernel
theorem d22_82 : decode (mB m22) 82 = .ok (.iload 7, 2) := by decide +kernel
theorem d22_84 : decode (mB m22) 84 = .ok (.ireturn, 1) := by decide +kernel
theorem d23_0 : decode (mB m23) 0 = .ok (.iload_n 1, 1) := by decide +kernel
theorem d23_1 : decode (mB m23) 1 = .ok (.ifCond .lt 9, 3) := by decide +kernel
theorem d23_4 : decode (mB m23) 4 = .ok (.iload_n 1, 1) := by decide +kernel
theorem d23_5 : decode (mB m23) 5 = .ok (.bipush 64, 2) := by decide +kernel
theorem d23_7 : decode (mB m23) 7 = .ok (.if_icmp .lt 5, 3) := by decide +kernel
theorem d23_10 : decode (mB m23) 10 = .ok (.iconst (-1), 1) := by decide +kernel
theorem d23_11 : decode (mB m23) 11 = .ok (.ireturn, 1) := by decide +kernel
theorem d23_12 : decode (mB m23) 12 = .ok (.aload_n 0, 1) := by decide +kernel
theorem d23_13 : decode (mB m23) 13 = .ok (.getfield 20, 3) := by decide +kernel
theorem d23_16 : decode (mB m23) 16 = .ok (.iload_n 1, 1) := by decide +kernel
theorem d23_17 : decode (mB m23) 17 = .ok (.iaload, 1) := by decide +kernel
theorem d23_18 : decode (mB m23) 18 = .ok (.istore_n 2, 1) := by decide +kernel
theorem d23_19 : decode (mB m23) 19 = .ok (.iload_n 2, 1) := by decide +kernel
theorem d23_20 : decode (mB m23) 20 = .ok (.ifCond .lt 9, 3) := by decide +kernel
theorem d23_23 : decode (mB m23) 23 = .ok (.iload_n 2, 1) := by decide +kernel
theorem d23_24 : decode (mB m23) 24 = .ok (.bipush 64, 2) := by decide +kernel
theorem d23_26 : decode (mB m23) 26 = .ok (.if_icmp .lt 5, 3) := by decide +kernel
theorem d23_29 : decode (mB m23) 29 = .ok (.iconst (-1), 1) := by decide +kernel
theorem d23_30 : decode (mB m23) 30 = .ok (.ireturn, 1) := by decide +kernel
theorem d23_31 : decode (mB m23) 31 = .ok (.aload_n 0, 1) := by decide +kernel
theorem d23_32 : decode (mB m23) 32 = .ok (.getfield 29, 3) := by decide +kernel
theorem d23_35 : decode (mB m23) 35 = .ok (.iload_n 1, 1) := by decide +kernel
theorem d23_36 : decode (mB m23) 36 = .ok (.iaload, 1) := by decide +kernel
theorem d23_37 : decode (mB m23) 37 = .ok (.istore_n 3, 1) := by decide +kernel
theorem d23_38 : decode (mB m23) 38 = .ok (.aload_n 0, 1) := by decide +kernel
theorem d23_39 : decode (mB m23) 39 = .ok (.getfield 26, 3) := by decide +kernel
theorem d23_42 : decode (mB m23) 42 = .ok (.iload_n 1, 1) := by decide +kernel
theorem d23_43 : decode (mB m23) 43 = .ok (.iaload, 1) := by decide +kernel
theorem d23_44 : decode (mB m23) 44 = .ok (.istore 4, 2) := by decide +kernel
theorem d23_46 : decode (mB m23) 46 = .ok (.iload_n 3, 1) := by decide +kernel
theorem d23_47 : decode (mB m23) 47 = .ok (.ifCond .lt 20, 3) := by decide +kernel
theorem d23_50 : decode (mB m23) 50 = .ok (.iload_n 3, 1) := by decide +kernel
theorem d23_51 : decode (mB m23) 51 = .ok (.bipush 64, 2) := by decide +kernel
theorem d23_53 : decode (mB m23) 53 = .ok (.if_icmp .ge 14, 3) := by decide +kernel
theorem d23_56 : decode (mB m23) 56 = .ok (.aload_n 0, 1) := by decide +kernel
theorem d23_57 : decode (mB m23) 57 = .ok (.getfield 26, 3) := by decide +kernel
theorem d23_60 : decode (mB m23) 60 = .ok (.iload_n 3, 1) := by decide +kernel
theorem d23_61 : decode (mB m23) 61 = .ok (.iload 4, 2) := by decide +kernel
theorem d23_63 : decode (mB m23) 63 = .ok (.iastore, 1) := by decide +kernel
theorem d23_64 : decode (mB m23) 64 = .ok (.goto 11, 3) := by decide +kernel
theorem d23_67 : decode (mB m23) 67 = .ok (.aload_n 0, 1) := by decide +kernel
theorem d23_68 : decode (mB m23) 68 = .ok (.getfield 23, 3) := by decide +kernel
theorem d23_71 : decode (mB m23) 71 = .ok (.iload_n 2, 1) := by decide +kernel
theorem d23_72 : decode (mB m23) 72 = .ok (.iload 4, 2) := by decide +kernel
theorem d23_74 : decode (mB m23) 74 = .ok (.iastore, 1) := by decide +kernel
theorem d23_75 : decode (mB m23) 75 = .ok (.iload 4, 2) := by decide +kernel
theorem d23_77 : decode (mB m23) 77 = .ok (.ifCond .lt 18, 3) := by decide +kernel
theorem d23_80 : decode (mB m23) 80 = .ok (.iload 4, 2) := by decide +kernel
theorem d23_82 : decode (mB m23) 82 = .ok (.bipush 64, 2) := by decide +kernel
theorem d23_84 : decode (mB m23) 84 = .ok (.if_icmp .ge 11, 3) := by decide +kernel
theorem d23_87 : decode (mB m23) 87 = .ok (.aload_n 0, 1) := by decide +kernel
theorem d23_88 : decode (mB m23) 88 = .ok (.getfield 29, 3) := by decide +kernel
theorem d23_91 : decode (mB m23) 91 = .ok (.iload 4, 2) := by decide +kernel
theorem d23_93 : decode (mB m23) 93 = .ok (.iload_n 3, 1) := by decide +kernel
theorem d23_94 : decode (mB m23) 94 = .ok (.iastore, 1) := by decide +kernel
theorem d23_95 : decode (mB m23) 95 = .ok (.aload_n 0, 1) := by decide +kernel
theorem d23_96 : decode (mB m23) 96 = .ok (.getfield 29, 3) := by decide +kernel
theorem d23_99 : decode (mB m23) 99 = .ok (.iload_n 1, 1) := by decide +kernel
theorem d23_100 : decode (mB m23) 100 = .ok (.iconst (-1), 1) := by decide +kernel
theorem d23_101 : decode (mB m23) 101 = .ok (.iastore, 1) := by decide +kernel
theorem d23_102 : decode (mB m23) 102 = .ok (.aload_n 0, 1) := by decide +kernel
theorem d23_103 : decode (mB m23) 103 = .ok (.getfield 26, 3) := by decide +kernel
theorem d23_106 : decode (mB m23) 106 = .ok (.iload_n 1, 1) := by decide +kernel
theorem d23_107 : decode (mB m23) 107 = .ok (.iconst (-1), 1) := by decide +kernel
theorem d23_108 : decode (mB m23) 108 = .ok (.iastore, 1) := by decide +kernel
theorem d23_109 : decode (mB m23) 109 = .ok (.aload_n 0, 1) := by decide +kernel
theorem d23_110 : decode (mB m23) 110 = .ok (.getfield 20, 3) := by decide +kernel
theorem d23_113 : decode (mB m23) 113 = .ok (.iload_n 1, 1) := by decide +kernel
theorem d23_114 : decode (mB m23) 114 = .ok (.iconst (-1), 1) := by decide +kernel
theorem d23_115 : decode (mB m23) 115 = .ok (.iastore, 1) := by decide +kernel
theorem d23_116 : decode (mB m23) 116 = .ok (.iload_n 2, 1) := by decide +kernel
theorem d23_117 : decode (mB m23) 117 = .ok (.ireturn, 1) := by decide +kernel
theorem d24_0 : decode (mB m24) 0 = .ok (.aload_n 0, 1) := by decide +kernel
theorem d24_1 : decode (mB m24) 1 = .ok (.iload_n 1, 1) := by decide +kernel
theorem d24_2 : decode (mB m24) 2 = .ok (.invokevirtual 156, 3) := by decide +kernel
theorem d24_5 : decode (mB m24) 5 = .ok (.istore_n 2, 1) := by decide +kernel
theorem d24_6 : decode (mB m24) 6 = .ok (.aload_n 0, 1) := by decide +kernel
theorem d24_7 : decode (mB m24) 7 = .ok (.iload_n 2, 1) := by decide +kernel
theorem d24_8 : decode (mB m24) 8 = .ok (.invokevirtual 62, 3) := by decide +kernel
theorem d24_11 : decode (mB m24) 11 = .ok (.ifCond .ne 5, 3) := by decide +kernel
theorem d24_14 : decode (mB m24) 14 = .ok (.iconst (-1), 1) := by decide +kernel
theorem d24_15 : decode (mB m24) 15 = .ok (.ireturn, 1) := by decide +kernel
theorem d24_16 : decode (mB m24) 16 = .ok (.aload_n 0, 1) := by decide +kernel
theorem d24_17 : decode (mB m24) 17 = .ok (.getfield 17, 3) := by decide +kernel
theorem d24_20 : decode (mB m24) 20 = .ok (.iload_n 2, 1) := by decide +kernel
theorem d24_21 : decode (mB m24) 21 = .ok (.aload_n 0, 1) := by decide +kernel
theorem d24_22 : decode (mB m24) 22 = .ok (.getfield 17, 3) := by decide +kernel
theorem d24_25 : decode (mB m24) 25 = .ok (.iload_n 2, 1) := by decide +kernel
theorem d24_26 : decode (mB m24) 26 = .ok (.iaload, 1) := by decide +kernel
theorem d24_27 : decode (mB m24) 27 = .ok (.iconst 1, 1) := by decide +kernel
theorem d24_28 : decode (mB m24) 28 = .ok (.isub, 1) := by decide +kernel
theorem d24_29 : decode (mB m24) 29 = .ok (.iastore, 1) := by decide +kernel
theorem d24_30 : decode (mB m24) 30 = .ok (.iload_n 2, 1) := by decide +kernel
theorem d24_31 : decode (mB m24) 31 = .ok (.ireturn, 1) := by decide +kernel
theorem d25_0 : decode (mB m25) 0 = .ok (.aload_n 0, 1) := by decide +kernel
theorem d25_1 : decode (mB m25) 1 = .ok (.iload_n 1, 1) := by decide +kernel
theorem d25_2 : decode (mB m25) 2 = .ok (.invokevirtual 62, 3) := by decide +kernel
theorem d25_5 : decode (mB m25) 5 = .ok (.ifCond .ne 4, 3) := by decide +kernel
theorem d25_8 : decode (mB m25) 8 = .ok (.return_, 1) := by decide +kernel
theorem d25_9 : decode (mB m25) 9 = .ok (.aload_n 0, 1) := by decide +kernel
theorem d25_10 : decode (mB m25) 10 = .ok (.getfield 13, 3) := by decide +kernel
theorem d25_13 : decode (mB m25) 13 = .ok (.iload_n 1, 1) := by decide +kernel
theorem d25_14 : decode (mB m25) 14 = .ok (.iconst 0, 1) := by decide +kernel
theorem d25_15 : decode (mB m25) 15 = .ok (.iastore, 1) := by decide +kernel
theorem d25_16 : decode (mB m25) 16 = .ok (.aload_n 0, 1) := by decide +kernel
theorem d25_17 : decode (mB m25) 17 = .ok (.getfield 17, 3) := by decide +kernel
theorem d25_20 : decode (mB m25) 20 = .ok (.iload_n 1, 1) := by decide +kernel
theorem d25_21 : decode (mB m25) 21 = .ok (.iconst 0, 1) := by decide +kernel
theorem d25_22 : decode (mB m25) 22 = .ok (.iastore, 1) := by decide +kernel
theorem d25_23 : decode (mB m25) 23 = .ok (.aload_n 0, 1) := by decide +kernel
theorem d25_24 : decode (mB m25) 24 = .ok (.getfield 23, 3) := by decide +kernel
theorem d25_27 : decode (mB m25) 27 = .ok (.iload_n 1, 1) := by decide +kernel
theorem d25_28 : decode (mB m25) 28 = .ok (.iconst (-1), 1) := by decide +kernel
theorem d25_29 : decode (mB m25) 29 = .ok (.iastore, 1) := by decide +kernel
theorem d25_30 : decode (mB m25) 30 = .ok (.aload_n 0, 1) := by decide +kernel
theorem d25_31 : decode (mB m25) 31 = .ok (.iload_n 1, 1) := by decide +kernel
theorem d25_32 : decode (mB m25) 32 = .ok (.iconst 0, 1) := by decide +kernel
theorem d25_33 : decode (mB m25) 33 = .ok (.invokevirtual 69, 3) := by decide +kernel
theorem d25_36 : decode (mB m25) 36 = .ok (.return_, 1) := by decide +kernel
theorem d26_0 : decode (mB m26) 0 = .ok (.aload_n 0, 1) := by decide +kernel
theorem d26_1 : decode (mB m26) 1 = .ok (.iload_n 1, 1) := by decide +kernel
theorem d26_2 : decode (mB m26) 2 = .ok (.iload_n 2, 1) := by decide +kernel
theorem d26_3 : decode (mB m26) 3 = .ok (.invokevirtual 76, 3) := by decide +kernel
theorem d26_6 : decode (mB m26) 6 = .ok (.ifCond .ne 5, 3) := by decide +kernel
theorem d26_9 : decode (mB m26) 9 = .ok (.iconst (-1), 1) := by decide +kernel
theorem d26_10 : decode (mB m26) 10 = .ok (.ireturn, 1) := by decide +kernel
theorem d26_11 : decode (mB m26) 11 = .ok (.aload_n 0, 1) := by decide +kernel
theorem d26_12 : decode (mB m26) 12 = .ok (.iload_n 1, 1) := by decide +kernel
theorem d26_13 : decode (mB m26) 13 = .ok (.iload_n 2, 1) := by decide +kernel
theorem d26_14 : decode (mB m26) 14 = .ok (.invokevirtual 66, 3) := by decide +kernel
theorem d26_17 : decode (mB m26) 17 = .ok (.istore_n 3, 1) := by decide +kernel
theorem d26_18 : decode (mB m26) 18 = .ok (.aload_n 0, 1) := by decide +kernel
theorem d26_19 : decode (mB m26) 19 = .ok (.getfield 20, 3) := by decide +kernel
theorem d26_22 : decode (mB m26) 22 = .ok (.iload_n 3, 1) := by decide +kernel
theorem d26_23 : decode (mB m26) 23 = .ok (.iaload, 1) := by decide +kernel
theorem d26_24 : decode (mB m26) 24 = .ok (.ifCond .ge 6, 3) := by decide +kernel
theorem d26_27 : decode (mB m26) 27 = .ok (.bipush (-3), 2) := by decide +kernel
theorem d26_29 : decode (mB m26) 29 = .ok (.ireturn, 1) := by decide +kernel
theorem d26_30 : decode (mB m26) 30 = .ok (.aload_n 0, 1) := by decide +kernel
theorem d26_31 : decode (mB m26) 31 = .ok (.iload_n 3, 1) := by decide +kernel
theorem d26_32 : decode (mB m26) 32 = .ok (.invokevirtual 80, 3) := by decide +kernel
theorem d26_35 : decode (mB m26) 35 = .ok (.istore 4, 2) := by decide +kernel
theorem d26_37 : decode (mB m26) 37 = .ok (.aload_n 0, 1) := by decide +kernel
theorem d26_38 : decode (mB m26) 38 = .ok (.iload 4, 2) := by decide +kernel
theorem d26_40 : decode (mB m26) 40 = .ok (.invokevirtual 62, 3) := by decide +kernel
theorem d26_43 : decode (mB m26) 43 = .ok (.ifCond .ne 6, 3) := by decide +kernel
theorem d26_46 : decode (mB m26) 46 = .ok (.bipush (-3), 2) := by decide +kernel
theorem d26_48 : decode (mB m26) 48 = .ok (.ireturn, 1) := by decide +kernel
theorem d26_49 : decode (mB m26) 49 = .ok (.aload_n 0, 1) := by decide +kernel
theorem d26_50 : decode (mB m26) 50 = .ok (.getfield 17, 3) := by decide +kernel
theorem d26_53 : decode (mB m26) 53 = .ok (.iload 4, 2) := by decide +kernel
theorem d26_55 : decode (mB m26) 55 = .ok (.iaload, 1) := by decide +kernel
theorem d26_56 : decode (mB m26) 56 = .ok (.ifCond .gt 9, 3) := by decide +kernel
theorem d26_59 : decode (mB m26) 59 = .ok (.aload_n 0, 1) := by decide +kernel
theorem d26_60 : decode (mB m26) 60 = .ok (.iload 4, 2) := by decide +kernel
theorem d26_62 : decode (mB m26) 62 = .ok (.invokevirtual 84, 3) := by decide +kernel
theorem d26_65 : decode (mB m26) 65 = .ok (.iload 4, 2) := by decide +kernel
theorem d26_67 : decode (mB m26) 67 = .ok (.ireturn, 1) := by decide +kernel
theorem d27_0 : decode (mB m27) 0 = .ok (.aload_n 0, 1) := by decide +kernel
theorem d27_1 : decode (mB m27) 1 = .ok (.iload_n 1, 1) := by decide +kernel
theorem d27_2 : decode (mB m27) 2 = .ok (.iload_n 2, 1) := by decide +kernel
theorem d27_3 : decode (mB m27) 3 = .ok (.invokevirtual 88, 3) := by decide +kernel
theorem d27_6 : decode (mB m27) 6 = .ok (.istore 4, 2) := by decide +kernel
theorem d27_8 : decode (mB m27) 8 = .ok (.iload 4, 2) := by decide +kernel
theorem d27_10 : decode (mB m27) 10 = .ok (.ifCond .ge 5, 3) := by decide +kernel
theorem d27_13 : decode (mB m27) 13 = .ok (.iconst 0, 1) := by decide +kernel
theorem d27_14 : decode (mB m27) 14 = .ok (.ireturn, 1) := by decide +kernel
theorem d27_15 : decode (mB m27) 15 = .ok (.aload_n 0, 1) := by decide +kernel
theorem d27_16 : decode (mB m27) 16 = .ok (.getfield 13, 3) := by decide +kernel
theorem d27_19 : decode (mB m27) 19 = .ok (.iload 4, 2) := by decide +kernel
theorem d27_21 : decode (mB m27) 21 = .ok (.iload_n 3, 1) := by decide +kernel
theorem d27_22 : decode (mB m27) 22 = .ok (.iastore, 1) := by decide +kernel
theorem d27_23 : decode (mB m27) 23 = .ok (.iconst 1, 1) := by decide +kernel
theorem d27_24 : decode (mB m27) 24 = .ok (.ireturn, 1) := by decide +kernel
theorem d28_0 : decode (mB m28) 0 = .ok (.aload_n 0, 1) := by decide +kernel
theorem d28_1 : decode (mB m28) 1 = .ok (.iload_n 1, 1) := by decide +kernel
theorem d28_2 : decode (mB m28) 2 = .ok (.invokevirtual 62, 3) := by decide +kernel
theorem d28_5 : decode (mB m28) 5 = .ok (.ifCond .ne 5, 3) := by decide +kernel
theorem d28_8 : decode (mB m28) 8 = .ok (.iconst 0, 1) := by decide +kernel
theorem d28_9 : decode (mB m28) 9 = .ok (.ireturn, 1) := by decide +kernel
theorem d28_10 : decode (mB m28) 10 = .ok (.aload_n 0, 1) := by decide +kernel
theorem d28_11 : decode (mB m28) 11 = .ok (.getfield 7, 3) := by decide +kernel
theorem d28_14 : decode (mB m28) 14 = .ok (.iload_n 1, 1) := by decide +kernel
theorem d28_15 : decode (mB m28) 15 = .ok (.baload, 1) := by decide +kernel
theorem d28_16 : decode (mB m28) 16 = .ok (.iconst 1, 1) := by decide +kernel
theorem d28_17 : decode (mB m28) 17 = .ok (.if_icmp .eq 5, 3) := by decide +kernel
theorem d28_20 : decode (mB m28) 20 = .ok (.iconst 0, 1) := by decide +kernel
theorem d28_21 : decode (mB m28) 21 = .ok (.ireturn, 1) := by decide +kernel
theorem d28_22 : decode (mB m28) 22 = .ok (.aload_n 0, 1) := by decide +kernel
theorem d28_23 : decode (mB m28) 23 = .ok (.iload_n 1, 1) := by decide +kernel
theorem d28_24 : decode (mB m28) 24 = .ok (.iconst 2, 1) := by decide +kernel
theorem d28_25 : decode (mB m28) 25 = .ok (.invokevirtual 69, 3) := by decide +kernel
theorem d28_28 : decode (mB m28) 28 = .ok (.iconst 1, 1) := by decide +kernel
theorem d28_29 : decode (mB m28) 29 = .ok (.ireturn, 1) := by decide +kernel
theorem d29_0 : decode (mB m29) 0 = .ok (.aload_n 0, 1) := by decide +kernel
theorem d29_1 : decode (mB m29) 1 = .ok (.iload_n 1, 1) := by decide +kernel
theorem d29_2 : decode (mB m29) 2 = .ok (.invokevirtual 62, 3) := by decide +kernel
theorem d29_5 : decode (mB m29) 5 = .ok (.ifCond .ne 5, 3) := by decide +kernel
theorem d29_8 : decode (mB m29) 8 = .ok (.iconst 0, 1) := by decide +kernel
theorem d29_9 : decode (mB m29) 9 = .ok (.ireturn, 1) := by decide +kernel
theorem d29_10 : decode (mB m29) 10 = .ok (.aload_n 0, 1) := by decide +kernel
theorem d29_11 : decode (mB m29) 11 = .ok (.getfield 7, 3) := by decide +kernel
theorem d29_14 : decode (mB m29) 14 = .ok (.iload_n 1, 1) := by decide +kernel
theorem d29_15 : decode (mB m29) 15 = .ok (.baload, 1) := by decide +kernel
theorem d29_16 : decode (mB m29) 16 = .ok (.iconst 2, 1) := by decide +kernel
theorem d29_17 : decode (mB m29) 17 = .ok (.if_icmp .eq 5, 3) := by decide +kernel
theorem d29_20 : decode (mB m29) 20 = .ok (.iconst 0, 1) := by decide +kernel
theorem d29_21 : decode (mB m29) 21 = .ok (.ireturn, 1) := by decide +kernel
theorem d29_22 : decode (mB m29) 22 = .ok (.aload_n 0, 1) := by decide +kernel
theorem d29_23 : decode (mB m29) 23 = .ok (.iload_n 1, 1) := by decide +kernel
theorem d29_24 : decode (mB m29) 24 = .ok (.iconst 1, 1) := by decide +kernel
theorem d29_25 : decode (mB m29) 25 = .ok (.invokevirtual 69, 3) := by decide +kernel
theorem d29_28 : decode (mB m29) 28 = .ok (.iconst 1, 1) := by decide +kernel
theorem d29_29 : decode (mB m29) 29 = .ok (.ireturn, 1) := by decide +kernel
theorem d30_0 : decode (mB m30) 0 = .ok (.iload_n 1, 1) := by decide +kernel
theorem d30_1 : decode (mB m30) 1 = .ok (.ifCond .ne 7, 3) := by decide +kernel
theorem d30_4 : decode (mB m30) 4 = .ok (.ldc2_w 148, 3) := by decide +kernel
theorem d30_7 : decode (mB m30) 7 = .ok (.lreturn, 1) := by decide +kernel
theorem d30_8 : decode (mB m30) 8 = .ok (.iload_n 1, 1) := by decide +kernel
theorem d30_9 : decode (mB m30) 9 = .ok (.iconst 1, 1) := by decide +kernel
theorem d30_10 : decode (mB m30) 10 = .ok (.if_icmp .ne 7, 3) := by decide +kernel
theorem d30_13 : decode (mB m30) 13 = .ok (.ldc2_w 162, 3) := by decide +kernel
theorem d30_16 : decode (mB m30) 16 = .ok (.lreturn, 1) := by decide +kernel
theorem d30_17 : decode (mB m30) 17 = .ok (.iload_n 1, 1) := by decide +kernel
theorem d30_18 : decode (mB m30) 18 = .ok (.iconst 2, 1) := by decide +kernel
theorem d30_19 : decode (mB m30) 19 = .ok (.if_icmp .ne 7, 3) := by decide +kernel
theorem d30_22 : decode (mB m30) 22 = .ok (.ldc2_w 164, 3) := by decide +kernel
theorem d30_25 : decode (mB m30) 25 = .ok (.lreturn, 1) := by decide +kernel
theorem d30_26 : decode (mB m30) 26 = .ok (.iload_n 1, 1) := by decide +kernel
theorem d30_27 : decode (mB m30) 27 = .ok (.iconst 3, 1) := by decide +kernel
theorem d30_28 : decode (mB m30) 28 = .ok (.if_icmp .ne 7, 3) := by decide +kernel
theorem d30_31 : decode (mB m30) 31 = .ok (.ldc2_w 166, 3) := by decide +kernel
theorem d30_34 : decode (mB m30) 34 = .ok (.lreturn, 1) := by decide +kernel
theorem d30_35 : decode (mB m30) 35 = .ok (.iload_n 1, 1) := by decide +kernel
theorem d30_36 : decode (mB m30) 36 = .ok (.iconst 4, 1) := by decide +kernel
theorem d30_37 : decode (mB m30) 37 = .ok (.if_icmp .ne 7, 3) := by decide +kernel
theorem d30_40 : decode (mB m30) 40 = .ok (.ldc2_w 168, 3) := by decide +kernel
theorem d30_43 : decode (mB m30) 43 = .ok (.lreturn, 1) := by decide +kernel
theorem d30_44 : decode (mB m30) 44 = .ok (.iload_n 1, 1) := by decide +kernel
theorem d30_45 : decode (mB m30) 45 = .ok (.iconst 5, 1) := by decide +kernel
theorem d30_46 : decode (mB m30) 46 = .ok (.if_icmp .ne 7, 3) := by decide +kernel
theorem d30_49 : decode (mB m30) 49 = .ok (.ldc2_w 170, 3) := by decide +kernel
theorem d30_52 : decode (mB m30) 52 = .ok (.lreturn, 1) := by decide +kernel
theorem d30_53 : decode (mB m30) 53 = .ok (.iload_n 1, 1) := by decide +kernel
theorem d30_54 : decode (mB m30) 54 = .ok (.bipush 6, 2) := by decide +kernel
theorem d30_56 : decode (mB m30) 56 = .ok (.if_icmp .ne 5, 3) := by decide +kernel
theorem d30_59 : decode (mB m30) 59 = .ok (.lconst 1, 1) := by decide +kernel
theorem d30_60 : decode (mB m30) 60 = .ok (.lreturn, 1) := by decide +kernel
theorem d30_61 : decode (mB m30) 61 = .ok (.lconst 0, 1) := by decide +kernel
theorem d30_62 : decode (mB m30) 62 = .ok (.lreturn, 1) := by decide +kernel
theorem d31_0 : decode (mB m31) 0 = .ok (.aload_n 0, 1) := by decide +kernel
theorem d31_1 : decode (mB m31) 1 = .ok (.getfield 141, 3) := by decide +kernel
theorem d31_4 : decode (mB m31) 4 = .ok (.ifCond .ne 4, 3) := by decide +kernel
theorem d31_7 : decode (mB m31) 7 = .ok (.return_, 1) := by decide +kernel
theorem d31_8 : decode (mB m31) 8 = .ok (.aload_n 0, 1) := by decide +kernel
theorem d31_9 : decode (mB m31) 9 = .ok (.getfield 54, 3) := by decide +kernel
theorem d31_12 : decode (mB m31) 12 = .ok (.lstore_n 1, 1) := by decide +kernel
theorem d31_13 : decode (mB m31) 13 = .ok (.aload_n 0, 1) := by decide +kernel
theorem d31_14 : decode (mB m31) 14 = .ok (.getfield 32, 3) := by decide +kernel
theorem d31_17 : decode (mB m31) 17 = .ok (.iconst 0, 1) := by decide +kernel
theorem d31_18 : decode (mB m31) 18 = .ok (.lload_n 1, 1) := by decide +kernel
theorem d31_19 : decode (mB m31) 19 = .ok (.lastore, 1) := by decide +kernel
theorem d31_20 : decode (mB m31) 20 = .ok (.iconst 1, 1) := by decide +kernel
theorem d31_21 : decode (mB m31) 21 = .ok (.istore_n 3, 1) := by decide +kernel
theorem d31_22 : decode (mB m31) 22 = .ok (.iload_n 3, 1) := by decide +kernel
theorem d31_23 : decode (mB m31) 23 = .ok (.bipush 6, 2) := by decide +kernel
theorem d31_25 : decode (mB m31) 25 = .ok (.if_icmp .gt 40, 3) := by decide +kernel
theorem d31_28 : decode (mB m31) 28 = .ok (.iconst 1, 1) := by decide +kernel
theorem d31_29 : decode (mB m31) 29 = .ok (.iload_n 3, 1) := by decide +kernel
theorem d31_30 : decode (mB m31) 30 = .ok (.iconst 1, 1) := by decide +kernel
theorem d31_31 : decode (mB m31) 31 = .ok (.isub, 1) := by decide +kernel
theorem d31_32 : decode (mB m31) 32 = .ok (.ishl, 1) := by decide +kernel
theorem d31_33 : decode (mB m31) 33 = .ok (.istore 4, 2) := by decide +kernel
theorem d31_35 : decode (mB m31) 35 = .ok (.aload_n 0, 1) := by decide +kernel
theorem d31_36 : decode (mB m31) 36 = .ok (.iload_n 3, 1) := by decide +kernel
theorem d31_37 : decode (mB m31) 37 = .ok (.invokevirtual 159, 3) := by decide +kernel
theorem d31_40 : decode (mB m31) 40 = .ok (.lstore 5, 2) := by decide +kernel
theorem d31_42 : decode (mB m31) 42 = .ok (.lload_n 1, 1) := by decide +kernel
theorem d31_43 : decode (mB m31) 43 = .ok (.lload_n 1, 1) := by decide +kernel
theorem d31_44 : decode (mB m31) 44 = .ok (.iload 4, 2) := by decide +kernel
theorem d31_46 : decode (mB m31) 46 = .ok (.lushr, 1) := by decide +kernel
theorem d31_47 : decode (mB m31) 47 = .ok (.land, 1) := by decide +kernel
theorem d31_48 : decode (mB m31) 48 = .ok (.lload 5, 2) := by decide +kernel
theorem d31_50 : decode (mB m31) 50 = .ok (.land, 1) := by decide +kernel
theorem d31_51 : decode (mB m31) 51 = .ok (.lstore_n 1, 1) := by decide +kernel
theorem d31_52 : decode (mB m31) 52 = .ok (.aload_n 0, 1) := by decide +kernel
theorem d31_53 : decode (mB m31) 53 = .ok (.getfield 32, 3) := by decide +kernel
theorem d31_56 : decode (mB m31) 56 = .ok (.iload_n 3, 1) := by decide +kernel
theorem d31_57 : decode (mB m31) 57 = .ok (.lload_n 1, 1) := by decide +kernel
theorem d31_58 : decode (mB m31) 58 = .ok (.lastore, 1) := by decide +kernel
theorem d31_59 : decode (mB m31) 59 = .ok (.iinc 3 1, 3) := by decide +kernel
theorem d31_62 : decode (mB m31) 62 = .ok (.goto (-40), 3) := by decide +kernel
theorem d31_65 : decode (mB m31) 65 = .ok (.aload_n 0, 1) := by decide +kernel
theorem d31_66 : decode (mB m31) 66 = .ok (.iconst 0, 1) := by decide +kernel
theorem d31_67 : decode (mB m31) 67 = .ok (.putfield 141, 3) := by decide +kernel
theorem d31_70 : decode (mB m31) 70 = .ok (.return_, 1) := by decide +kernel
theorem d32_0 : decode (mB m32) 0 = .ok (.iload_n 1, 1) := by decide +kernel
theorem d32_1 : decode (mB m32) 1 = .ok (.ifCond .lt 9, 3) := by decide +kernel
theorem d32_4 : decode (mB m32) 4 = .ok (.iload_n 1, 1) := by decide +kernel
theorem d32_5 : decode (mB m32) 5 = .ok (.bipush 6, 2) := by decide +kernel
theorem d32_7 : decode (mB m32) 7 = .ok (.if_icmp .le 5, 3) := by decide +kernel
theorem d32_10 : decode (mB m32) 10 = .ok (.lconst 0, 1) := by decide +kernel
theorem d32_11 : decode (mB m32) 11 = .ok (.lreturn, 1) := by decide +kernel
theorem d32_12 : decode (mB m32) 12 = .ok (.aload_n 0, 1) := by decide +kernel
theorem d32_13 : decode (mB m32) 13 = .ok (.invokevirtual 126, 3) := by decide +kernel
theorem d32_16 : decode (mB m32) 16 = .ok (.aload_n 0, 1) := by decide +kernel
theorem d32_17 : decode (mB m32) 17 = .ok (.getfield 32, 3) := by decide +kernel
theorem d32_20 : decode (mB m32) 20 = .ok (.iload_n 1, 1) := by decide +kernel
theorem d32_21 : decode (mB m32) 21 = .ok (.laload, 1) := by decide +kernel
theorem d32_22 : decode (mB m32) 22 = .ok (.lreturn, 1) := by decide +kernel
theorem d33_0 : decode (mB m33) 0 = .ok (.aload_n 0, 1) := by decide +kernel
theorem d33_1 : decode (mB m33) 1 = .ok (.iload_n 1, 1) := by decide +kernel
theorem d33_2 : decode (mB m33) 2 = .ok (.invokevirtual 62, 3) := by decide +kernel
theorem d33_5 : decode (mB m33) 5 = .ok (.ifCond .ne 4, 3) := by decide +kernel
theorem d33_8 : decode (mB m33) 8 = .ok (.return_, 1) := by decide +kernel
theorem d33_9 : decode (mB m33) 9 = .ok (.aload_n 0, 1) := by decide +kernel
theorem d33_10 : decode (mB m33) 10 = .ok (.getfield 13, 3) := by decide +kernel
theorem d33_13 : decode (mB m33) 13 = .ok (.iload_n 1, 1) := by decide +kernel
theorem d33_14 : decode (mB m33) 14 = .ok (.iconst 0, 1) := by decide +kernel
theorem d33_15 : decode (mB m33) 15 = .ok (.iastore, 1) := by decide +kernel
theorem d33_16 : decode (mB m33) 16 = .ok (.aload_n 0, 1) := by decide +kernel
theorem d33_17 : decode (mB m33) 17 = .ok (.getfield 17, 3) := by decide +kernel
theorem d33_20 : decode (mB m33) 20 = .ok (.iload_n 1, 1) := by decide +kernel
theorem d33_21 : decode (mB m33) 21 = .ok (.iconst 0, 1) := by decide +kernel
theorem d33_22 : decode (mB m33) 22 = .ok (.iastore, 1) := by decide +kernel
theorem d33_23 : decode (mB m33) 23 = .ok (.aload_n 0, 1) := by decide +kernel
theorem d33_24 : decode (mB m33) 24 = .ok (.getfield 23, 3) := by decide +kernel
theorem d33_27 : decode (mB m33) 27 = .ok (.iload_n 1, 1) := by decide +kernel
theorem d33_28 : decode (mB m33) 28 = .ok (.iconst (-1), 1) := by decide +kernel
theorem d33_29 : decode (mB m33) 29 = .ok (.iastore, 1) := by decide +kernel
theorem d33_30 : decode (mB m33) 30 = .ok (.aload_n 0, 1) := by decide +kernel
theorem d33_31 : decode (mB m33) 31 = .ok (.iload_n 1, 1) := by decide +kernel
theorem d33_32 : decode (mB m33) 32 = .ok (.iconst 3, 1) := by decide +kernel
theorem d33_33 : decode (mB m33) 33 = .ok (.invokevirtual 69, 3) := by decide +kernel
theorem d33_36 : decode (mB m33) 36 = .ok (.return_, 1) := by decide +kernel
theorem d34_0 : decode (mB m34) 0 = .ok (.iconst 1, 1) := by decide +kernel
theorem d34_1 : decode (mB m34) 1 = .ok (.iload_n 2, 1) := by decide +kernel
theorem d34_2 : decode (mB m34) 2 = .ok (.ishl, 1) := by decide +kernel
theorem d34_3 : decode (mB m34) 3 = .ok (.istore_n 3, 1) := by decide +kernel
theorem d34_4 : decode (mB m34) 4 = .ok (.iconst 0, 1) := by decide +kernel
theorem d34_5 : decode (mB m34) 5 = .ok (.istore 4, 2) := by decide +kernel
theorem d34_7 : decode (mB m34) 7 = .ok (.iload 4, 2) := by decide +kernel
theorem d34_9 : decode (mB m34) 9 = .ok (.iload_n 3, 1) := by decide +kernel
theorem d34_10 : decode (mB m34) 10 = .ok (.if_icmp .ge 24, 3) := by decide +kernel
theorem d34_13 : decode (mB m34) 13 = .ok (.iload 4, 2) := by decide +kernel
theorem d34_15 : decode (mB m34) 15 = .ok (.bipush 64, 2) := by decide +kernel
theorem d34_17 : decode (mB m34) 17 = .ok (.if_icmp .ge 17, 3) := by decide +kernel
theorem d34_20 : decode (mB m34) 20 = .ok (.aload_n 0, 1) := by decide +kernel
theorem d34_21 : decode (mB m34) 21 = .ok (.iload_n 1, 1) := by decide +kernel
theorem d34_22 : decode (mB m34) 22 = .ok (.iload 4, 2) := by decide +kernel
theorem d34_24 : decode (mB m34) 24 = .ok (.iadd, 1) := by decide +kernel
theorem d34_25 : decode (mB m34) 25 = .ok (.invokevirtual 150, 3) := by decide +kernel
theorem d34_28 : decode (mB m34) 28 = .ok (.iinc 4 1, 3) := by decide +kernel
theorem d34_31 : decode (mB m34) 31 = .ok (.goto (-24), 3) := by decide +kernel
theorem d34_34 : decode (mB m34) 34 = .ok (.return_, 1) := by decide +kernel
theorem d35_0 : decode (mB m35) 0 = .ok (.iload_n 1, 1) := by decide +kernel
theorem d35_1 : decode (mB m35) 1 = .ok (.ifCond .lt 9, 3) := by decide +kernel
theorem d35_4 : decode (mB m35) 4 = .ok (.iload_n 1, 1) := by decide +kernel
theorem d35_5 : decode (mB m35) 5 = .ok (.bipush 6, 2) := by decide +kernel
theorem d35_7 : decode (mB m35) 7 = .ok (.if_icmp .le 5, 3) := by decide +kernel
theorem d35_10 : decode (mB m35) 10 = .ok (.iconst (-1), 1) := by decide +kernel
theorem d35_11 : decode (mB m35) 11 = .ok (.ireturn, 1) := by decide +kernel
theorem d35_12 : decode (mB m35) 12 = .ok (.aload_n 0, 1) := by decide +kernel
theorem d35_13 : decode (mB m35) 13 = .ok (.iload_n 1, 1) := by decide +kernel
theorem d35_14 : decode (mB m35) 14 = .ok (.invokevirtual 91, 3) := by decide +kernel
theorem d35_17 : decode (mB m35) 17 = .ok (.lstore_n 2, 1) := by decide +kernel
theorem d35_18 : decode (mB m35) 18 = .ok (.lload_n 2, 1) := by decide +kernel
theorem d35_19 : decode (mB m35) 19 = .ok (.lconst 0, 1) := by decide +kernel
theorem d35_20 : decode (mB m35) 20 = .ok (.lcmp, 1) := by decide +kernel
theorem d35_21 : decode (mB m35) 21 = .ok (.ifCond .ne 6, 3) := by decide +kernel
theorem d35_24 : decode (mB m35) 24 = .ok (.bipush (-4), 2) := by decide +kernel
theorem d35_26 : decode (mB m35) 26 = .ok (.ireturn, 1) := by decide +kernel
theorem d35_27 : decode (mB m35) 27 = .ok (.aload_n 0, 1) := by decide +kernel
theorem d35_28 : decode (mB m35) 28 = .ok (.lload_n 2, 1) := by decide +kernel
theorem d35_29 : decode (mB m35) 29 = .ok (.invokevirtual 58, 3) := by decide +kernel
theorem d35_32 : decode (mB m35) 32 = .ok (.istore 4, 2) := by decide +kernel
theorem d35_34 : decode (mB m35) 34 = .ok (.aload_n 0, 1) := by decide +kernel
theorem d35_35 : decode (mB m35) 35 = .ok (.iload 4, 2) := by decide +kernel
theorem d35_37 : decode (mB m35) 37 = .ok (.invokevirtual 62, 3) := by decide +kernel
theorem d35_40 : decode (mB m35) 40 = .ok (.ifCond .ne 6, 3) := by decide +kernel
theorem d35_43 : decode (mB m35) 43 = .ok (.bipush (-4), 2) := by decide +kernel
theorem d35_45 : decode (mB m35) 45 = .ok (.ireturn, 1) := by decide +kernel
theorem d35_46 : decode (mB m35) 46 = .ok (.aload_n 0, 1) := by decide +kernel
theorem d35_47 : decode (mB m35) 47 = .ok (.iload 4, 2) := by decide +kernel
theorem d35_49 : decode (mB m35) 49 = .ok (.iload_n 1, 1) := by decide +kernel
theorem d35_50 : decode (mB m35) 50 = .ok (.invokevirtual 95, 3) := by decide +kernel
theorem d35_53 : decode (mB m35) 53 = .ok (.iload 4, 2) := by decide +kernel
theorem d35_55 : decode (mB m35) 55 = .ok (.ireturn, 1) := by decide +kernel
theorem d36_0 : decode (mB m36) 0 = .ok (.aload_n 0, 1) := by decide +kernel
theorem d36_1 : decode (mB m36) 1 = .ok (.iload_n 1, 1) := by decide +kernel
theorem d36_2 : decode (mB m36) 2 = .ok (.invokevirtual 62, 3) := by decide +kernel
theorem d36_5 : decode (mB m36) 5 = .ok (.ifCond .ne 5, 3) := by decide +kernel
theorem d36_8 : decode (mB m36) 8 = .ok (.iconst 0, 1) := by decide +kernel
theorem d36_9 : decode (mB m36) 9 = .ok (.ireturn, 1) := by decide +kernel
theorem d36_10 : decode (mB m36) 10 = .ok (.aload_n 0, 1) := by decide +kernel
theorem d36_11 : decode (mB m36) 11 = .ok (.getfield 7, 3) := by decide +kernel
theorem d36_14 : decode (mB m36) 14 = .ok (.iload_n 1, 1) := by decide +kernel
theorem d36_15 : decode (mB m36) 15 = .ok (.baload, 1) := by decide +kernel
theorem d36_16 : decode (mB m36) 16 = .ok (.iconst 3, 1) := by decide +kernel
theorem d36_17 : decode (mB m36) 17 = .ok (.if_icmp .eq 5, 3) := by decide +kernel
theorem d36_20 : decode (mB m36) 20 = .ok (.iconst 0, 1) := by decide +kernel
theorem d36_21 : decode (mB m36) 21 = .ok (.ireturn, 1) := by decide +kernel
theorem d36_22 : decode (mB m36) 22 = .ok (.aload_n 0, 1) := by decide +kernel
theorem d36_23 : decode (mB m36) 23 = .ok (.iload_n 1, 1) := by decide +kernel
theorem d36_24 : decode (mB m36) 24 = .ok (.invokevirtual 84, 3) := by decide +kernel
theorem d36_27 : decode (mB m36) 27 = .ok (.iconst 1, 1) := by decide +kernel
theorem d36_28 : decode (mB m36) 28 = .ok (.ireturn, 1) := by decide +kernel
theorem d37_0 : decode (mB m37) 0 = .ok (.iload_n 2, 1) := by decide +kernel
theorem d37_1 : decode (mB m37) 1 = .ok (.iload_n 1, 1) := by decide +kernel
theorem d37_2 : decode (mB m37) 2 = .ok (.if_icmp .gt 5, 3) := by decide +kernel
theorem d37_5 : decode (mB m37) 5 = .ok (.lconst 0, 1) := by decide +kernel
theorem d37_6 : decode (mB m37) 6 = .ok (.lreturn, 1) := by decide +kernel
theorem d37_7 : decode (mB m37) 7 = .ok (.aload_n 0, 1) := by decide +kernel
theorem d37_8 : decode (mB m37) 8 = .ok (.iload_n 2, 1) := by decide +kernel
theorem d37_9 : decode (mB m37) 9 = .ok (.invokevirtual 129, 3) := by decide +kernel
theorem d37_12 : decode (mB m37) 12 = .ok (.lstore_n 3, 1) := by decide +kernel
theorem d37_13 : decode (mB m37) 13 = .ok (.aload_n 0, 1) := by decide +kernel
theorem d37_14 : decode (mB m37) 14 = .ok (.iload_n 1, 1) := by decide +kernel
theorem d37_15 : decode (mB m37) 15 = .ok (.invokevirtual 129, 3) := by decide +kernel
theorem d37_18 : decode (mB m37) 18 = .ok (.lstore 5, 2) := by decide +kernel
theorem d37_20 : decode (mB m37) 20 = .ok (.lload_n 3, 1) := by decide +kernel
theorem d37_21 : decode (mB m37) 21 = .ok (.lload 5, 2) := by decide +kernel
theorem d37_23 : decode (mB m37) 23 = .ok (.ldc2_w 148, 3) := by decide +kernel
theorem d37_26 : decode (mB m37) 26 = .ok (.lxor, 1) := by decide +kernel
theorem d37_27 : decode (mB m37) 27 = .ok (.land, 1) := by decide +kernel
theorem d37_28 : decode (mB m37) 28 = .ok (.lreturn, 1) := by decide +kernel
theorem d38_0 : decode (mB m38) 0 = .ok (.aload_n 0, 1) := by decide +kernel
theorem d38_1 : decode (mB m38) 1 = .ok (.getfield 104, 3) := by decide +kernel
theorem d38_4 : decode (mB m38) 4 = .ok (.aload_n 0, 1) := by decide +kernel
theorem d38_5 : decode (mB m38) 5 = .ok (.getfield 107, 3) := by decide +kernel
theorem d38_8 : decode (mB m38) 8 = .ok (.if_icmp .lt 4, 3) := by decide +kernel
theorem d38_11 : decode (mB m38) 11 = .ok (.return_, 1) := by decide +kernel
theorem d38_12 : decode (mB m38) 12 = .ok (.aload_n 0, 1) := by decide +kernel
theorem d38_13 : decode (mB m38) 13 = .ok (.aload_n 0, 1) := by decide +kernel
theorem d38_14 : decode (mB m38) 14 = .ok (.getfield 104, 3) := by decide +kernel
theorem d38_17 : decode (mB m38) 17 = .ok (.aload_n 0, 1) := by decide +kernel
theorem d38_18 : decode (mB m38) 18 = .ok (.getfield 107, 3) := by decide +kernel
theorem d38_21 : decode (mB m38) 21 = .ok (.invokevirtual 172, 3) := by decide +kernel
theorem d38_24 : decode (mB m38) 24 = .ok (.lstore_n 1, 1) := by decide +kernel
theorem d38_25 : decode (mB m38) 25 = .ok (.aload_n 0, 1) := by decide +kernel
theorem d38_26 : decode (mB m38) 26 = .ok (.getfield 132, 3) := by decide +kernel
theorem d38_29 : decode (mB m38) 29 = .ok (.lload_n 1, 1) := by decide +kernel
theorem d38_30 : decode (mB m38) 30 = .ok (.land, 1) := by decide +kernel
theorem d38_31 : decode (mB m38) 31 = .ok (.lstore_n 3, 1) := by decide +kernel
theorem d38_32 : decode (mB m38) 32 = .ok (.lload_n 3, 1) := by decide +kernel
theorem d38_33 : decode (mB m38) 33 = .ok (.lconst 0, 1) := by decide +kernel
theorem d38_34 : decode (mB m38) 34 = .ok (.lcmp, 1) := by decide +kernel
theorem d38_35 : decode (mB m38) 35 = .ok (.ifCond .ne 14, 3) := by decide +kernel
theorem d38_38 : decode (mB m38) 38 = .ok (.aload_n 0, 1) := by decide +kernel
theorem d38_39 : decode (mB m38) 39 = .ok (.aload_n 0, 1) := by decide +kernel
theorem d38_40 : decode (mB m38) 40 = .ok (.getfield 107, 3) := by decide +kernel
theorem d38_43 : decode (mB m38) 43 = .ok (.putfield 104, 3) := by decide +kernel
theorem d38_46 : decode (mB m38) 46 = .ok (.goto 12, 3) := by decide +kernel
theorem d38_49 : decode (mB m38) 49 = .ok (.aload_n 0, 1) := by decide +kernel
theorem d38_50 : decode (mB m38) 50 = .ok (.aload_n 0, 1) := by decide +kernel
theorem d38_51 : decode (mB m38) 51 = .ok (.lload_n 3, 1) := by decide +kernel
theorem d38_52 : decode (mB m38) 52 = .ok (.invokevirtual 58, 3) := by decide +kernel
theorem d38_55 : decode (mB m38) 55 = .ok (.putfield 104, 3) := by decide +kernel
theorem d38_58 : decode (mB m38) 58 = .ok (.return_, 1) := by decide +kernel
theorem d39_0 : decode (mB m39) 0 = .ok (.lload_n 1, 1) := by decide +kernel
theorem d39_1 : decode (mB m39) 1 = .ok (.lconst 0, 1) := by decide +kernel
theorem d39_2 : decode (mB m39) 2 = .ok (.lcmp, 1) := by decide +kernel
theorem d39_3 : decode (mB m39) 3 = .ok (.ifCond .ne 5, 3) := by decide +kernel
theorem d39_6 : decode (mB m39) 6 = .ok (.iconst (-1), 1) := by decide +kernel
theorem d39_7 : decode (mB m39) 7 = .ok (.ireturn, 1) := by decide +kernel
theorem d39_8 : decode (mB m39) 8 = .ok (.iconst 0, 1) := by decide +kernel
theorem d39_9 : decode (mB m39) 9 = .ok (.istore_n 3, 1) := by decide +kernel
theorem d39_10 : decode (mB m39) 10 = .ok (.lload_n 1, 1) := by decide +kernel
theorem d39_11 : decode (mB m39) 11 = .ok (.lstore 4, 2) := by decide +kernel
theorem d39_13 : decode (mB m39) 13 = .ok (.lload 4, 2) := by decide +kernel
theorem d39_15 : decode (mB m39) 15 = .ok (.bipush 32, 2) := by decide +kernel
theorem d39_17 : decode (mB m39) 17 = .ok (.lushr, 1) := by decide +kernel
theorem d39_18 : decode (mB m39) 18 = .ok (.lconst 0, 1) := by decide +kernel
theorem d39_19 : decode (mB m39) 19 = .ok (.lcmp, 1) := by decide +kernel
theorem d39_20 : decode (mB m39) 20 = .ok (.ifCond .eq 13, 3) := by decide +kernel
theorem d39_23 : decode (mB m39) 23 = .ok (.iinc 3 32, 3) := by decide +kernel
theorem d39_26 : decode (mB m39) 26 = .ok (.lload 4, 2) := by decide +kernel
theorem d39_28 : decode (mB m39) 28 = .ok (.bipush 32, 2) := by decide +kernel
theorem d39_30 : decode (mB m39) 30 = .ok (.lushr, 1) := by decide +kernel
theorem d39_31 : decode (mB m39) 31 = .ok (.lstore 4, 2) := by decide +kernel
theorem d39_33 : decode (mB m39) 33 = .ok (.lload 4, 2) := by decide +kernel
theorem d39_35 : decode (mB m39) 35 = .ok (.bipush 16, 2) := by decide +kernel
theorem d39_37 : decode (mB m39) 37 = .ok (.lushr, 1) := by decide +kernel
theorem d39_38 : decode (mB m39) 38 = .ok (.lconst 0, 1) := by decide +kernel
theorem d39_39 : decode (mB m39) 39 = .ok (.lcmp, 1) := by decide +kernel
theorem d39_40 : decode (mB m39) 40 = .ok (.ifCond .eq 13, 3) := by decide +kernel
theorem d39_43 : decode (mB m39) 43 = .ok (.iinc 3 16, 3) := by decide +kernel
theorem d39_46 : decode (mB m39) 46 = .ok (.lload 4, 2) := by decide +kernel
theorem d39_48 : decode (mB m39) 48 = .ok (.bipush 16, 2) := by decide +kernel
theorem d39_50 : decode (mB m39) 50 = .ok (.lushr, 1) := by decide +kernel
theorem d39_51 : decode (mB m39) 51 = .ok (.lstore 4, 2) := by decide +kernel
theorem d39_53 : decode (mB m39) 53 = .ok (.lload 4, 2) := by decide +kernel
theorem d39_55 : decode (mB m39) 55 = .ok (.bipush 8, 2) := by decide +kernel
theorem d39_57 : decode (mB m39) 57 = .ok (.lushr, 1) := by decide +kernel
theorem d39_58 : decode (mB m39) 58 = .ok (.lconst 0, 1) := by decide +kernel
theorem d39_59 : decode (mB m39) 59 = .ok (.lcmp, 1) := by decide +kernel
theorem d39_60 : decode (mB m39) 60 = .ok (.ifCond .eq 13, 3) := by decide +kernel
theorem d39_63 : decode (mB m39) 63 = .ok (.iinc 3 8, 3) := by decide +kernel
theorem d39_66 : decode (mB m39) 66 = .ok (.lload 4, 2) := by decide +kernel
theorem d39_68 : decode (mB m39) 68 = .ok (.bipush 8, 2) := by decide +kernel
theorem d39_70 : decode (mB m39) 70 = .ok (.lushr, 1) := by decide +kernel
theorem d39_71 : decode (mB m39) 71 = .ok (.lstore 4, 2) := by decide +kernel
theorem d39_73 : decode (mB m39) 73 = .ok (.lload 4, 2) := by decide +kernel
theorem d39_75 : decode (mB m39) 75 = .ok (.iconst 4, 1) := by decide +kernel
theorem d39_76 : decode (mB m39) 76 = .ok (.lushr, 1) := by decide +kernel
theorem d39_77 : decode (mB m39) 77 = .ok (.lconst 0, 1) := by decide +kernel
theorem d39_78 : decode (mB m39) 78 = .ok (.lcmp, 1) := by decide +kernel
theorem d39_79 : decode (mB m39) 79 = .ok (.ifCond .eq 12, 3) := by decide +kernel
theorem d39_82 : decode (mB m39) 82 = .ok (.iinc 3 4, 3) := by decide +kernel
theorem d39_85 : decode (mB m39) 85 = .ok (.lload 4, 2) := by decide +kernel
theorem d39_87 : decode (mB m39) 87 = .ok (.iconst 4, 1) := by decide +kernel
theorem d39_88 : decode (mB m39) 88 = .ok (.lushr, 1) := by decide +kernel
theorem d39_89 : decode (mB m39) 89 = .ok (.lstore 4, 2) := by decide +kernel
theorem d39_91 : decode (mB m39) 91 = .ok (.lload 4, 2) := by decide +kernel
theorem d39_93 : decode (mB m39) 93 = .ok (.iconst 2, 1) := by decide +kernel
theorem d39_94 : decode (mB m39) 94 = .ok (.lushr, 1) := by decide +kernel
theorem d39_95 : decode (mB m39) 95 = .ok (.lconst 0, 1) := by decide +kernel
theorem d39_96 : decode (mB m39) 96 = .ok (.lcmp, 1) := by decide +kernel
theorem d39_97 : decode (mB m39) 97 = .ok (.ifCond .eq 12, 3) := by decide +kernel
theorem d39_100 : decode (mB m39) 100 = .ok (.iinc 3 2, 3) := by decide +kernel
theorem d39_103 : decode (mB m39) 103 = .ok (.lload 4, 2) := by decide +kernel
theorem d39_105 : decode (mB m39) 105 = .ok (.iconst 2, 1) := by decide +kernel
theorem d39_106 : decode (mB m39) 106 = .ok (.lushr, 1) := by decide +kernel
theorem d39_107 : decode (mB m39) 107 = .ok (.lstore 4, 2) := by decide +kernel
theorem d39_109 : decode (mB m39) 109 = .ok (.lload 4, 2) := by decide +kernel
theorem d39_111 : decode (mB m39) 111 = .ok (.iconst 1, 1) := by decide +kernel
theorem d39_112 : decode (mB m39) 112 = .ok (.lushr, 1) := by decide +kernel
theorem d39_113 : decode (mB m39) 113 = .ok (.lconst 0, 1) := by decide +kernel
theorem d39_114 : decode (mB m39) 114 = .ok (.lcmp, 1) := by decide +kernel
theorem d39_115 : decode (mB m39) 115 = .ok (.ifCond .eq 6, 3) := by decide +kernel
theorem d39_118 : decode (mB m39) 118 = .ok (.iinc 3 1, 3) := by decide +kernel
theorem d39_121 : decode (mB m39) 121 = .ok (.iload_n 3, 1) := by decide +kernel
theorem d39_122 : decode (mB m39) 122 = .ok (.ireturn, 1) := by decide +kernel
theorem d40_0 : decode (mB m40) 0 = .ok (.aload_n 0, 1) := by decide +kernel
theorem d40_1 : decode (mB m40) 1 = .ok (.getfield 107, 3) := by decide +kernel
theorem d40_4 : decode (mB m40) 4 = .ok (.aload_n 0, 1) := by decide +kernel
theorem d40_5 : decode (mB m40) 5 = .ok (.getfield 104, 3) := by decide +kernel
theorem d40_8 : decode (mB m40) 8 = .ok (.if_icmp .gt 4, 3) := by decide +kernel
theorem d40_11 : decode (mB m40) 11 = .ok (.return_, 1) := by decide +kernel
theorem d40_12 : decode (mB m40) 12 = .ok (.aload_n 0, 1) := by decide +kernel
theorem d40_13 : decode (mB m40) 13 = .ok (.aload_n 0, 1) := by decide +kernel
theorem d40_14 : decode (mB m40) 14 = .ok (.getfield 104, 3) := by decide +kernel
theorem d40_17 : decode (mB m40) 17 = .ok (.iconst 1, 1) := by decide +kernel
theorem d40_18 : decode (mB m40) 18 = .ok (.iadd, 1) := by decide +kernel
theorem d40_19 : decode (mB m40) 19 = .ok (.aload_n 0, 1) := by decide +kernel
theorem d40_20 : decode (mB m40) 20 = .ok (.getfield 107, 3) := by decide +kernel
theorem d40_23 : decode (mB m40) 23 = .ok (.iconst 1, 1) := by decide +kernel
theorem d40_24 : decode (mB m40) 24 = .ok (.iadd, 1) := by decide +kernel
theorem d40_25 : decode (mB m40) 25 = .ok (.invokevirtual 172, 3) := by decide +kernel
theorem d40_28 : decode (mB m40) 28 = .ok (.lstore_n 1, 1) := by decide +kernel
theorem d40_29 : decode (mB m40) 29 = .ok (.aload_n 0, 1) := by decide +kernel
theorem d40_30 : decode (mB m40) 30 = .ok (.getfield 54, 3) := by decide +kernel
theorem d40_33 : decode (mB m40) 33 = .ok (.lload_n 1, 1) := by decide +kernel
theorem d40_34 : decode (mB m40) 34 = .ok (.land, 1) := by decide +kernel
theorem d40_35 : decode (mB m40) 35 = .ok (.lstore_n 3, 1) := by decide +kernel
theorem d40_36 : decode (mB m40) 36 = .ok (.lload_n 3, 1) := by decide +kernel
theorem d40_37 : decode (mB m40) 37 = .ok (.lconst 0, 1) := by decide +kernel
theorem d40_38 : decode (mB m40) 38 = .ok (.lcmp, 1) := by decide +kernel
theorem d40_39 : decode (mB m40) 39 = .ok (.ifCond .ne 14, 3) := by decide +kernel
theorem d40_42 : decode (mB m40) 42 = .ok (.aload_n 0, 1) := by decide +kernel
theorem d40_43 : decode (mB m40) 43 = .ok (.aload_n 0, 1) := by decide +kernel
theorem d40_44 : decode (mB m40) 44 = .ok (.getfield 104, 3) := by decide +kernel
theorem d40_47 : decode (mB m40) 47 = .ok (.putfield 107, 3) := by decide +kernel
theorem d40_50 : decode (mB m40) 50 = .ok (.goto 12, 3) := by decide +kernel
theorem d40_53 : decode (mB m40) 53 = .ok (.aload_n 0, 1) := by decide +kernel
theorem d40_54 : decode (mB m40) 54 = .ok (.aload_n 0, 1) := by decide +kernel
theorem d40_55 : decode (mB m40) 55 = .ok (.lload_n 3, 1) := by decide +kernel
theorem d40_56 : decode (mB m40) 56 = .ok (.invokevirtual 176, 3) := by decide +kernel
theorem d40_59 : decode (mB m40) 59 = .ok (.putfield 107, 3) := by decide +kernel
theorem d40_62 : decode (mB m40) 62 = .ok (.return_, 1) := by decide +kernel
theorem d41_0 : decode (mB m41) 0 = .ok (.aload_n 0, 1) := by decide +kernel
theorem d41_1 : decode (mB m41) 1 = .ok (.getfield 104, 3) := by decide +kernel
theorem d41_4 : decode (mB m41) 4 = .ok (.aload_n 0, 1) := by decide +kernel
theorem d41_5 : decode (mB m41) 5 = .ok (.getfield 107, 3) := by decide +kernel
theorem d41_8 : decode (mB m41) 8 = .ok (.if_icmp .lt 5, 3) := by decide +kernel
theorem d41_11 : decode (mB m41) 11 = .ok (.iconst 1, 1) := by decide +kernel
theorem d41_12 : decode (mB m41) 12 = .ok (.ireturn, 1) := by decide +kernel
theorem d41_13 : decode (mB m41) 13 = .ok (.aload_n 0, 1) := by decide +kernel
theorem d41_14 : decode (mB m41) 14 = .ok (.getfield 101, 3) := by decide +kernel
theorem d41_17 : decode (mB m41) 17 = .ok (.aload_n 0, 1) := by decide +kernel
theorem d41_18 : decode (mB m41) 18 = .ok (.getfield 98, 3) := by decide +kernel
theorem d41_21 : decode (mB m41) 21 = .ok (.if_icmp .ne 7, 3) := by decide +kernel
theorem d41_24 : decode (mB m41) 24 = .ok (.iconst 1, 1) := by decide +kernel
theorem d41_25 : decode (mB m41) 25 = .ok (.goto 4, 3) := by decide +kernel
theorem d41_28 : decode (mB m41) 28 = .ok (.iconst 0, 1) := by decide +kernel
theorem d41_29 : decode (mB m41) 29 = .ok (.ireturn, 1) := by decide +kernel
theorem d42_0 : decode (mB m42) 0 = .ok (.aload_n 0, 1) := by decide +kernel
theorem d42_1 : decode (mB m42) 1 = .ok (.getfield 23, 3) := by decide +kernel
theorem d42_4 : decode (mB m42) 4 = .ok (.iload_n 1, 1) := by decide +kernel
theorem d42_5 : decode (mB m42) 5 = .ok (.iaload, 1) := by decide +kernel
theorem d42_6 : decode (mB m42) 6 = .ok (.istore_n 3, 1) := by decide +kernel
theorem d42_7 : decode (mB m42) 7 = .ok (.iconst 0, 1) := by decide +kernel
theorem d42_8 : decode (mB m42) 8 = .ok (.istore 4, 2) := by decide +kernel
theorem d42_10 : decode (mB m42) 10 = .ok (.iload 4, 2) := by decide +kernel
theorem d42_12 : decode (mB m42) 12 = .ok (.bipush 64, 2) := by decide +kernel
theorem d42_14 : decode (mB m42) 14 = .ok (.if_icmp .ge 33, 3) := by decide +kernel
theorem d42_17 : decode (mB m42) 17 = .ok (.iload_n 3, 1) := by decide +kernel
theorem d42_18 : decode (mB m42) 18 = .ok (.ifCond .lt 29, 3) := by decide +kernel
theorem d42_21 : decode (mB m42) 21 = .ok (.iload_n 3, 1) := by decide +kernel
theorem d42_22 : decode (mB m42) 22 = .ok (.bipush 64, 2) := by decide +kernel
theorem d42_24 : decode (mB m42) 24 = .ok (.if_icmp .ge 23, 3) := by decide +kernel
theorem d42_27 : decode (mB m42) 27 = .ok (.aload_n 0, 1) := by decide +kernel
theorem d42_28 : decode (mB m42) 28 = .ok (.getfield 20, 3) := by decide +kernel
theorem d42_31 : decode (mB m42) 31 = .ok (.iload_n 3, 1) := by decide +kernel
theorem d42_32 : decode (mB m42) 32 = .ok (.iload_n 2, 1) := by decide +kernel
theorem d42_33 : decode (mB m42) 33 = .ok (.iastore, 1) := by decide +kernel
theorem d42_34 : decode (mB m42) 34 = .ok (.aload_n 0, 1) := by decide +kernel
theorem d42_35 : decode (mB m42) 35 = .ok (.getfield 26, 3) := by decide +kernel
theorem d42_38 : decode (mB m42) 38 = .ok (.iload_n 3, 1) := by decide +kernel
theorem d42_39 : decode (mB m42) 39 = .ok (.iaload, 1) := by decide +kernel
theorem d42_40 : decode (mB m42) 40 = .ok (.istore_n 3, 1) := by decide +kernel
theorem d42_41 : decode (mB m42) 41 = .ok (.iinc 4 1, 3) := by decide +kernel
theorem d42_44 : decode (mB m42) 44 = .ok (.goto (-34), 3) := by decide +kernel
theorem d42_47 : decode (mB m42) 47 = .ok (.aload_n 0, 1) := by decide +kernel
theorem d42_48 : decode (mB m42) 48 = .ok (.getfield 23, 3) := by decide +kernel
theorem d42_51 : decode (mB m42) 51 = .ok (.iload_n 2, 1) := by decide +kernel
theorem d42_52 : decode (mB m42) 52 = .ok (.aload_n 0, 1) := by decide +kernel
theorem d42_53 : decode (mB m42) 53 = .ok (.getfield 23, 3) := by decide +kernel
theorem d42_56 : decode (mB m42) 56 = .ok (.iload_n 1, 1) := by decide +kernel
theorem d42_57 : decode (mB m42) 57 = .ok (.iaload, 1) := by decide +kernel
theorem d42_58 : decode (mB m42) 58 = .ok (.iastore, 1) := by decide +kernel
theorem d42_59 : decode (mB m42) 59 = .ok (.aload_n 0, 1) := by decide +kernel
theorem d42_60 : decode (mB m42) 60 = .ok (.getfield 23, 3) := by decide +kernel
theorem d42_63 : decode (mB m42) 63 = .ok (.iload_n 1, 1) := by decide +kernel
theorem d42_64 : decode (mB m42) 64 = .ok (.iconst (-1), 1) := by decide +kernel
theorem d42_65 : decode (mB m42) 65 = .ok (.iastore, 1) := by decide +kernel
theorem d42_66 : decode (mB m42) 66 = .ok (.return_, 1) := by decide +kernel
theorem d43_0 : decode (mB m43) 0 = .ok (.aload_n 0, 1) := by decide +kernel
theorem d43_1 : decode (mB m43) 1 = .ok (.iload_n 1, 1) := by decide +kernel
theorem d43_2 : decode (mB m43) 2 = .ok (.invokevirtual 62, 3) := by decide +kernel
theorem d43_5 : decode (mB m43) 5 = .ok (.ifCond .eq 11, 3) := by decide +kernel
theorem d43_8 : decode (mB m43) 8 = .ok (.aload_n 0, 1) := by decide +kernel
theorem d43_9 : decode (mB m43) 9 = .ok (.iload_n 2, 1) := by decide +kernel
theorem d43_10 : decode (mB m43) 10 = .ok (.invokevirtual 62, 3) := by decide +kernel
theorem d43_13 : decode (mB m43) 13 = .ok (.ifCond .ne 4, 3) := by decide +kernel
theorem d43_16 : decode (mB m43) 16 = .ok (.return_, 1) := by decide +kernel
theorem d43_17 : decode (mB m43) 17 = .ok (.aload_n 0, 1) := by decide +kernel
theorem d43_18 : decode (mB m43) 18 = .ok (.getfield 7, 3) := by decide +kernel
theorem d43_21 : decode (mB m43) 21 = .ok (.iload_n 1, 1) := by decide +kernel
theorem d43_22 : decode (mB m43) 22 = .ok (.baload, 1) := by decide +kernel
theorem d43_23 : decode (mB m43) 23 = .ok (.iconst 1, 1) := by decide +kernel
theorem d43_24 : decode (mB m43) 24 = .ok (.if_icmp .ne 12, 3) := by decide +kernel
theorem d43_27 : decode (mB m43) 27 = .ok (.aload_n 0, 1) := by decide +kernel
theorem d43_28 : decode (mB m43) 28 = .ok (.getfield 7, 3) := by decide +kernel
theorem d43_31 : decode (mB m43) 31 = .ok (.iload_n 2, 1) := by decide +kernel
theorem d43_32 : decode (mB m43) 32 = .ok (.baload, 1) := by decide +kernel
theorem d43_33 : decode (mB m43) 33 = .ok (.ifCond .eq 4, 3) := by decide +kernel
theorem d43_36 : decode (mB m43) 36 = .ok (.return_, 1) := by decide +kernel
theorem d43_37 : decode (mB m43) 37 = .ok (.aload_n 0, 1) := by decide +kernel
theorem d43_38 : decode (mB m43) 38 = .ok (.getfield 13, 3) := by decide +kernel
theorem d43_41 : decode (mB m43) 41 = .ok (.iload_n 1, 1) := by decide +kernel
theorem d43_42 : decode (mB m43) 42 = .ok (.iaload, 1) := by decide +kernel
theorem d43_43 : decode (mB m43) 43 = .ok (.istore_n 3, 1) := by decide +kernel
theorem d43_44 : decode (mB m43) 44 = .ok (.aload_n 0, 1) := by decide +kernel
theorem d43_45 : decode (mB m43) 45 = .ok (.getfield 17, 3) := by decide +kernel
theorem d43_48 : decode (mB m43) 48 = .ok (.iload_n 1, 1) := by decide +kernel
theorem d43_49 : decode (mB m43) 49 = .ok (.iaload, 1) := by decide +kernel
theorem d43_50 : decode (mB m43) 50 = .ok (.istore 4, 2) := by decide +kernel
theorem d43_52 : decode (mB m43) 52 = .ok (.aload_n 0, 1) := by decide +kernel
theorem d43_53 : decode (mB m43) 53 = .ok (.iload_n 2, 1) := by decide +kernel
theorem d43_54 : decode (mB m43) 54 = .ok (.iconst 1, 1) := by decide +kernel
theorem d43_55 : decode (mB m43) 55 = .ok (.invokevirtual 69, 3) := by decide +kernel
theorem d43_58 : decode (mB m43) 58 = .ok (.aload_n 0, 1) := by decide +kernel
theorem d43_59 : decode (mB m43) 59 = .ok (.getfield 13, 3) := by decide +kernel
theorem d43_62 : decode (mB m43) 62 = .ok (.iload_n 2, 1) := by decide +kernel
theorem d43_63 : decode (mB m43) 63 = .ok (.iload_n 3, 1) := by decide +kernel
theorem d43_64 : decode (mB m43) 64 = .ok (.iastore, 1) := by decide +kernel
theorem d43_65 : decode (mB m43) 65 = .ok (.aload_n 0, 1) := by decide +kernel
theorem d43_66 : decode (mB m43) 66 = .ok (.getfield 17, 3) := by decide +kernel
theorem d43_69 : decode (mB m43) 69 = .ok (.iload_n 2, 1) := by decide +kernel
theorem d43_70 : decode (mB m43) 70 = .ok (.iload 4, 2) := by decide +kernel
theorem d43_72 : decode (mB m43) 72 = .ok (.iastore, 1) := by decide +kernel
theorem d43_73 : decode (mB m43) 73 = .ok (.aload_n 0, 1) := by decide +kernel
theorem d43_74 : decode (mB m43) 74 = .ok (.iload_n 1, 1) := by decide +kernel
theorem d43_75 : decode (mB m43) 75 = .ok (.iload_n 2, 1) := by decide +kernel
theorem d43_76 : decode (mB m43) 76 = .ok (.invokevirtual 179, 3) := by decide +kernel
theorem d43_79 : decode (mB m43) 79 = .ok (.aload_n 0, 1) := by decide +kernel
theorem d43_80 : decode (mB m43) 80 = .ok (.iload_n 1, 1) := by decide +kernel
theorem d43_81 : decode (mB m43) 81 = .ok (.invokevirtual 84, 3) := by decide +kernel
theorem d43_84 : decode (mB m43) 84 = .ok (.return_, 1) := by decide +kernel
theorem d44_0 : decode (mB m44) 0 = .ok (.aload_n 0, 1) := by decide +kernel
theorem d44_1 : decode (mB m44) 1 = .ok (.aload_n 0, 1) := by decide +kernel
theorem d44_2 : decode (mB m44) 2 = .ok (.iload_n 1, 1) := by decide +kernel
theorem d44_3 : decode (mB m44) 3 = .ok (.iconst 0, 1) := by decide +kernel
theorem d44_4 : decode (mB m44) 4 = .ok (.bipush 64, 2) := by decide +kernel
theorem d44_6 : decode (mB m44) 6 = .ok (.invokevirtual 36, 3) := by decide +kernel
theorem d44_9 : decode (mB m44) 9 = .ok (.putfield 98, 3) := by decide +kernel
theorem d44_12 : decode (mB m44) 12 = .ok (.aload_n 0, 1) := by decide +kernel
theorem d44_13 : decode (mB m44) 13 = .ok (.iconst 0, 1) := by decide +kernel
theorem d44_14 : decode (mB m44) 14 = .ok (.putfield 101, 3) := by decide +kernel
theorem d44_17 : decode (mB m44) 17 = .ok (.aload_n 0, 1) := by decide +kernel
theorem d44_18 : decode (mB m44) 18 = .ok (.iconst 0, 1) := by decide +kernel
theorem d44_19 : decode (mB m44) 19 = .ok (.putfield 104, 3) := by decide +kernel
theorem d44_22 : decode (mB m44) 22 = .ok (.aload_n 0, 1) := by decide +kernel
theorem d44_23 : decode (mB m44) 23 = .ok (.aload_n 0, 1) := by decide +kernel
theorem d44_24 : decode (mB m44) 24 = .ok (.getfield 40, 3) := by decide +kernel
theorem d44_27 : decode (mB m44) 27 = .ok (.iconst 1, 1) := by decide +kernel
theorem d44_28 : decode (mB m44) 28 = .ok (.isub, 1) := by decide +kernel
theorem d44_29 : decode (mB m44) 29 = .ok (.putfield 107, 3) := by decide +kernel
theorem d44_32 : decode (mB m44) 32 = .ok (.iconst 0, 1) := by decide +kernel
theorem d44_33 : decode (mB m44) 33 = .ok (.istore_n 2, 1) := by decide +kernel
theorem d44_34 : decode (mB m44) 34 = .ok (.iload_n 2, 1) := by decide +kernel
theorem d44_35 : decode (mB m44) 35 = .ok (.bipush 65, 2) := by decide +kernel
theorem d44_37 : decode (mB m44) 37 = .ok (.if_icmp .gt 69, 3) := by decide +kernel
theorem d44_40 : decode (mB m44) 40 = .ok (.aload_n 0, 1) := by decide +kernel
theorem d44_41 : decode (mB m44) 41 = .ok (.invokevirtual 110, 3) := by decide +kernel
theorem d44_44 : decode (mB m44) 44 = .ok (.aload_n 0, 1) := by decide +kernel
theorem d44_45 : decode (mB m44) 45 = .ok (.invokevirtual 113, 3) := by decide +kernel
theorem d44_48 : decode (mB m44) 48 = .ok (.aload_n 0, 1) := by decide +kernel
theorem d44_49 : decode (mB m44) 49 = .ok (.invokevirtual 116, 3) := by decide +kernel
theorem d44_52 : decode (mB m44) 52 = .ok (.ifCond .eq 6, 3) := by decide +kernel
theorem d44_55 : decode (mB m44) 55 = .ok (.goto 51, 3) := by decide +kernel
theorem d44_58 : decode (mB m44) 58 = .ok (.aload_n 0, 1) := by decide +kernel
theorem d44_59 : decode (mB m44) 59 = .ok (.aload_n 0, 1) := by decide +kernel
theorem d44_60 : decode (mB m44) 60 = .ok (.getfield 104, 3) := by decide +kernel
theorem d44_63 : decode (mB m44) 63 = .ok (.aload_n 0, 1) := by decide +kernel
theorem d44_64 : decode (mB m44) 64 = .ok (.getfield 107, 3) := by decide +kernel
theorem d44_67 : decode (mB m44) 67 = .ok (.invokevirtual 120, 3) := by decide +kernel
theorem d44_70 : decode (mB m44) 70 = .ok (.aload_n 0, 1) := by decide +kernel
theorem d44_71 : decode (mB m44) 71 = .ok (.aload_n 0, 1) := by decide +kernel
theorem d44_72 : decode (mB m44) 72 = .ok (.getfield 101, 3) := by decide +kernel
theorem d44_75 : decode (mB m44) 75 = .ok (.iconst 1, 1) := by decide +kernel
theorem d44_76 : decode (mB m44) 76 = .ok (.iadd, 1) := by decide +kernel
theorem d44_77 : decode (mB m44) 77 = .ok (.putfield 101, 3) := by decide +kernel
theorem d44_80 : decode (mB m44) 80 = .ok (.aload_n 0, 1) := by decide +kernel
theorem d44_81 : decode (mB m44) 81 = .ok (.aload_n 0, 1) := by decide +kernel
theorem d44_82 : decode (mB m44) 82 = .ok (.getfield 104, 3) := by decide +kernel
theorem d44_85 : decode (mB m44) 85 = .ok (.iconst 1, 1) := by decide +kernel
theorem d44_86 : decode (mB m44) 86 = .ok (.iadd, 1) := by decide +kernel
theorem d44_87 : decode (mB m44) 87 = .ok (.putfield 104, 3) := by decide +kernel
theorem d44_90 : decode (mB m44) 90 = .ok (.aload_n 0, 1) := by decide +kernel
theorem d44_91 : decode (mB m44) 91 = .ok (.aload_n 0, 1) := by decide +kernel
theorem d44_92 : decode (mB m44) 92 = .ok (.getfield 107, 3) := by decide +kernel
theorem d44_95 : decode (mB m44) 95 = .ok (.iconst 1, 1) := by decide +kernel
theorem d44_96 : decode (mB m44) 96 = .ok (.isub, 1) := by decide +kernel
theorem d44_97 : decode (mB m44) 97 = .ok (.putfield 107, 3) := by decide +kernel
theorem d44_100 : decode (mB m44) 100 = .ok (.iinc 2 1, 3) := by decide +kernel
theorem d44_103 : decode (mB m44) 103 = .ok (.goto (-69), 3) := by decide +kernel
theorem d44_106 : decode (mB m44) 106 = .ok (.aload_n 0, 1) := by decide +kernel
theorem d44_107 : decode (mB m44) 107 = .ok (.getfield 101, 3) := by decide +kernel
theorem d44_110 : decode (mB m44) 110 = .ok (.ireturn, 1) := by decide +kernel
theorem d45_0 : decode (mB m45) 0 = .ok (.aload_n 0, 1) := by decide +kernel
theorem d45_1 : decode (mB m45) 1 = .ok (.getfield 54, 3) := by decide +kernel
theorem d45_4 : decode (mB m45) 4 = .ok (.lconst 0, 1) := by decide +kernel
theorem d45_5 : decode (mB m45) 5 = .ok (.lcmp, 1) := by decide +kernel
theorem d45_6 : decode (mB m45) 6 = .ok (.ifCond .ne 5, 3) := by decide +kernel
theorem d45_9 : decode (mB m45) 9 = .ok (.iconst (-1), 1) := by decide +kernel
theorem d45_10 : decode (mB m45) 10 = .ok (.ireturn, 1) := by decide +kernel
theorem d45_11 : decode (mB m45) 11 = .ok (.aload_n 0, 1) := by decide +kernel
theorem d45_12 : decode (mB m45) 12 = .ok (.invokevirtual 126, 3) := by decide +kernel
theorem d45_15 : decode (mB m45) 15 = .ok (.bipush 6, 2) := by decide +kernel
theorem d45_17 : decode (mB m45) 17 = .ok (.istore_n 1, 1) := by decide +kernel
theorem d45_18 : decode (mB m45) 18 = .ok (.iload_n 1, 1) := by decide +kernel
theorem d45_19 : decode (mB m45) 19 = .ok (.ifCond .lt 22, 3) := by decide +kernel
theorem d45_22 : decode (mB m45) 22 = .ok (.aload_n 0, 1) := by decide +kernel
theorem d45_23 : decode (mB m45) 23 = .ok (.getfield 32, 3) := by decide +kernel
theorem d45_26 : decode (mB m45) 26 = .ok (.iload_n 1, 1) := by decide +kernel
theorem d45_27 : decode (mB m45) 27 = .ok (.laload, 1) := by decide +kernel
theorem d45_28 : decode (mB m45) 28 = .ok (.lconst 0, 1) := by decide +kernel
theorem d45_29 : decode (mB m45) 29 = .ok (.lcmp, 1) := by decide +kernel
theorem d45_30 : decode (mB m45) 30 = .ok (.ifCond .eq 5, 3) := by decide +kernel
theorem d45_33 : decode (mB m45) 33 = .ok (.iload_n 1, 1) := by decide +kernel
theorem d45_34 : decode (mB m45) 34 = .ok (.ireturn, 1) := by decide +kernel
theorem d45_35 : decode (mB m45) 35 = .ok (.iinc 1 (-1), 3) := by decide +kernel
theorem d45_38 : decode (mB m45) 38 = .ok (.goto (-20), 3) := by decide +kernel
theorem d45_41 : decode (mB m45) 41 = .ok (.iconst (-1), 1) := by decide +kernel
theorem d45_42 : decode (mB m45) 42 = .ok (.ireturn, 1) := by decide +kernel
theorem d46_0 : decode (mB m46) 0 = .ok (.iconst 0, 1) := by decide +kernel
theorem d46_1 : decode (mB m46) 1 = .ok (.istore 5, 2) := by decide +kernel
theorem d46_3 : decode (mB m46) 3 = .ok (.iconst 0, 1) := by decide +kernel
theorem d46_4 : decode (mB m46) 4 = .ok (.istore 6, 2) := by decide +kernel
theorem d46_6 : decode (mB m46) 6 = .ok (.iconst 0, 1) := by decide +kernel
theorem d46_7 : decode (mB m46) 7 = .ok (.istore 7, 2) := by decide +kernel
theorem d46_9 : decode (mB m46) 9 = .ok (.iconst 0, 1) := by decide +kernel
theorem d46_10 : decode (mB m46) 10 = .ok (.istore 8, 2) := by decide +kernel
theorem d46_12 : decode (mB m46) 12 = .ok (.iconst 0, 1) := by decide +kernel
theorem d46_13 : decode (mB m46) 13 = .ok (.istore 9, 2) := by decide +kernel
theorem d46_15 : decode (mB m46) 15 = .ok (.iconst 0, 1) := by decide +kernel
theorem d46_16 : decode (mB m46) 16 = .ok (.istore 10, 2) := by decide +kernel
theorem d46_18 : decode (mB m46) 18 = .ok (.iload 10, 2) := by decide +kernel
theorem d46_20 : decode (mB m46) 20 = .ok (.bipush 8, 2) := by decide +kernel
theorem d46_22 : decode (mB m46) 22 = .ok (.if_icmp .ge 109, 3) := by decide +kernel
theorem d46_25 : decode (mB m46) 25 = .ok (.aload_n 0, 1) := by decide +kernel
theorem d46_26 : decode (mB m46) 26 = .ok (.iload 10, 2) := by decide +kernel
theorem d46_28 : decode (mB m46) 28 = .ok (.invokevirtual 7, 3) := by decide +kernel
theorem d46_31 : decode (mB m46) 31 = .ok (.istore 11, 2) := by decide +kernel
theorem d46_33 : decode (mB m46) 33 = .ok (.aload_n 0, 1) := by decide +kernel
theorem d46_34 : decode (mB m46) 34 = .ok (.iload 10, 2) := by decide +kernel
theorem d46_36 : decode (mB m46) 36 = .ok (.invokevirtual 13, 3) := by decide +kernel
theorem d46_39 : decode (mB m46) 39 = .ok (.istore 12, 2) := by decide +kernel
theorem d46_41 : decode (mB m46) 41 = .ok (.iload 9, 2) := by decide +kernel
theorem d46_43 : decode (mB m46) 43 = .ok (.iload 12, 2) := by decide +kernel
theorem d46_45 : decode (mB m46) 45 = .ok (.iadd, 1) := by decide +kernel
theorem d46_46 : decode (mB m46) 46 = .ok (.istore 9, 2) := by decide +kernel
theorem d46_48 : decode (mB m46) 48 = .ok (.iload 11, 2) := by decide +kernel
theorem d46_50 : decode (mB m46) 50 = .ok (.ifCond .ne 22, 3) := by decide +kernel
theorem d46_53 : decode (mB m46) 53 = .ok (.iinc 5 1, 3) := by decide +kernel
theorem d46_56 : decode (mB m46) 56 = .ok (.iload 12, 2) := by decide +kernel
theorem d46_58 : decode (mB m46) 58 = .ok (.ifCond .ne 12, 3) := by decide +kernel
theorem d46_61 : decode (mB m46) 61 = .ok (.aload_n 0, 1) := by decide +kernel
theorem d46_62 : decode (mB m46) 62 = .ok (.iload 10, 2) := by decide +kernel
theorem d46_64 : decode (mB m46) 64 = .ok (.invokevirtual 16, 3) := by decide +kernel
theorem d46_67 : decode (mB m46) 67 = .ok (.ifCond .eq 58, 3) := by decide +kernel
theorem d46_70 : decode (mB m46) 70 = .ok (.iconst 0, 1) := by decide +kernel
theorem d46_71 : decode (mB m46) 71 = .ok (.ireturn, 1) := by decide +kernel
theorem d46_72 : decode (mB m46) 72 = .ok (.iload 11, 2) := by decide +kernel
theorem d46_74 : decode (mB m46) 74 = .ok (.iconst 3, 1) := by decide +kernel
theorem d46_75 : decode (mB m46) 75 = .ok (.if_icmp .ne 13, 3) := by decide +kernel
theorem d46_78 : decode (mB m46) 78 = .ok (.iinc 7 1, 3) := by decide +kernel
theorem d46_81 : decode (mB m46) 81 = .ok (.iload 12, 2) := by decide +kernel
theorem d46_83 : decode (mB m46) 83 = .ok (.ifCond .eq 42, 3) := by decide +kernel
theorem d46_86 : decode (mB m46) 86 = .ok (.iconst 0, 1) := by decide +kernel
theorem d46_87 : decode (mB m46) 87 = .ok (.ireturn, 1) := by decide +kernel
theorem d46_88 : decode (mB m46) 88 = .ok (.iload 11, 2) := by decide +kernel
theorem d46_90 : decode (mB m46) 90 = .ok (.iconst 1, 1) := by decide +kernel
theorem d46_91 : decode (mB m46) 91 = .ok (.if_icmp .eq 9, 3) := by decide +kernel
theorem d46_94 : decode (mB m46) 94 = .ok (.iload 11, 2) := by decide +kernel
theorem d46_96 : decode (mB m46) 96 = .ok (.iconst 2, 1) := by decide +kernel
theorem d46_97 : decode (mB m46) 97 = .ok (.if_icmp .ne 26, 3) := by decide +kernel
theorem d46_100 : decode (mB m46) 100 = .ok (.iinc 6 1, 3) := by decide +kernel
theorem d46_103 : decode (mB m46) 103 = .ok (.iload 12, 2) := by decide +kernel
theorem d46_105 : decode (mB m46) 105 = .ok (.iconst 1, 1) := by decide +kernel
theorem d46_106 : decode (mB m46) 106 = .ok (.if_icmp .ge 5, 3) := by decide +kernel
theorem d46_109 : decode (mB m46) 109 = .ok (.iconst 0, 1) := by decide +kernel
theorem d46_110 : decode (mB m46) 110 = .ok (.ireturn, 1) := by decide +kernel
theorem d46_111 : decode (mB m46) 111 = .ok (.iload 11, 2) := by decide +kernel
theorem d46_113 : decode (mB m46) 113 = .ok (.iconst 2, 1) := by decide +kernel
theorem d46_114 : decode (mB m46) 114 = .ok (.if_icmp .ne 11, 3) := by decide +kernel
theorem d46_117 : decode (mB m46) 117 = .ok (.iinc 8 1, 3) := by decide +kernel
theorem d46_120 : decode (mB m46) 120 = .ok (.goto 5, 3) := by decide +kernel
theorem d46_123 : decode (mB m46) 123 = .ok (.iconst 0, 1) := by decide +kernel
theorem d46_124 : decode (mB m46) 124 = .ok (.ireturn, 1) := by decide +kernel
theorem d46_125 : decode (mB m46) 125 = .ok (.iinc 10 1, 3) := by decide +kernel
theorem d46_128 : decode (mB m46) 128 = .ok (.goto (-110), 3) := by decide +kernel
theorem d46_131 : decode (mB m46) 131 = .ok (.aload_n 0, 1) := by decide +kernel
theorem d46_132 : decode (mB m46) 132 = .ok (.bipush 8, 2) := by decide +kernel
theorem d46_134 : decode (mB m46) 134 = .ok (.invokevirtual 7, 3) := by decide +kernel
theorem d46_137 : decode (mB m46) 137 = .ok (.iconst (-1), 1) := by decide +kernel
theorem d46_138 : decode (mB m46) 138 = .ok (.if_icmp .ne 12, 3) := by decide +kernel
theorem d46_141 : decode (mB m46) 141 = .ok (.aload_n 0, 1) := by decide +kernel
theorem d46_142 : decode (mB m46) 142 = .ok (.invokevirtual 19, 3) := by decide +kernel
theorem d46_145 : decode (mB m46) 145 = .ok (.iload 5, 2) := by decide +kernel
theorem d46_147 : decode (mB m46) 147 = .ok (.if_icmp .eq 5, 3) := by decide +kernel
theorem d46_150 : decode (mB m46) 150 = .ok (.iconst 0, 1) := by decide +kernel
theorem d46_151 : decode (mB m46) 151 = .ok (.ireturn, 1) := by decide +kernel
theorem d46_152 : decode (mB m46) 152 = .ok (.aload_n 0, 1) := by decide +kernel
theorem d46_153 : decode (mB m46) 153 = .ok (.invokevirtual 23, 3) := by decide +kernel
theorem d46_156 : decode (mB m46) 156 = .ok (.istore 10, 2) := by decide +kernel
theorem d46_158 : decode (mB m46) 158 = .ok (.iload 5, 2) := by decide +kernel
theorem d46_160 : decode (mB m46) 160 = .ok (.ifCond .ne 7, 3) := by decide +kernel
theorem d46_163 : decode (mB m46) 163 = .ok (.iconst 1, 1) := by decide +kernel
theorem d46_164 : decode (mB m46) 164 = .ok (.goto 4, 3) := by decide +kernel
theorem d46_167 : decode (mB m46) 167 = .ok (.iconst 0, 1) := by decide +kernel
theorem d46_168 : decode (mB m46) 168 = .ok (.iload 10, 2) := by decide +kernel
theorem d46_170 : decode (mB m46) 170 = .ok (.iconst (-1), 1) := by decide +kernel
theorem d46_171 : decode (mB m46) 171 = .ok (.if_icmp .ne 7, 3) := by decide +kernel
theorem d46_174 : decode (mB m46) 174 = .ok (.iconst 1, 1) := by decide +kernel
theorem d46_175 : decode (mB m46) 175 = .ok (.goto 4, 3) := by decide +kernel
theorem d46_178 : decode (mB m46) 178 = .ok (.iconst 0, 1) := by decide +kernel
theorem d46_179 : decode (mB m46) 179 = .ok (.if_icmp .ne 9, 3) := by decide +kernel
theorem d46_182 : decode (mB m46) 182 = .ok (.iload 10, 2) := by decide +kernel
theorem d46_184 : decode (mB m46) 184 = .ok (.iconst 3, 1) := by decide +kernel
theorem d46_185 : decode (mB m46) 185 = .ok (.if_icmp .le 5, 3) := by decide +kernel
theorem d46_188 : decode (mB m46) 188 = .ok (.iconst 0, 1) := by decide +kernel
theorem d46_189 : decode (mB m46) 189 = .ok (.ireturn, 1) := by decide +kernel
theorem d46_190 : decode (mB m46) 190 = .ok (.iload 6, 2) := by decide +kernel
theorem d46_192 : decode (mB m46) 192 = .ok (.iload_n 2, 1) := by decide +kernel
theorem d46_193 : decode (mB m46) 193 = .ok (.if_icmp .ne 26, 3) := by decide +kernel
theorem d46_196 : decode (mB m46) 196 = .ok (.iload 7, 2) := by decide +kernel
theorem d46_198 : decode (mB m46) 198 = .ok (.iload_n 3, 1) := by decide +kernel
theorem d46_199 : decode (mB m46) 199 = .ok (.if_icmp .ne 20, 3) := by decide +kernel
theorem d46_202 : decode (mB m46) 202 = .ok (.iload 8, 2) := by decide +kernel
theorem d46_204 : decode (mB m46) 204 = .ok (.iload 4, 2) := by decide +kernel
theorem d46_206 : decode (mB m46) 206 = .ok (.if_icmp .ne 13, 3) := by decide +kernel
theorem d46_209 : decode (mB m46) 209 = .ok (.iload 9, 2) := by decide +kernel
theorem d46_211 : decode (mB m46) 211 = .ok (.iload_n 1, 1) := by decide +kernel
theorem d46_212 : decode (mB m46) 212 = .ok (.if_icmp .ne 7, 3) := by decide +kernel
theorem d46_215 : decode (mB m46) 215 = .ok (.iconst 1, 1) := by decide +kernel
theorem d46_216 : decode (mB m46) 216 = .ok (.goto 4, 3) := by decide +kernel
theorem d46_219 : decode (mB m46) 219 = .ok (.iconst 0, 1) := by decide +kernel
theorem d46_220 : decode (mB m46) 220 = .ok (.ireturn, 1) := by decide +kernel
theorem d47_0 : decode (mB m47) 0 = .ok (.new 8, 3) := by decide +kernel
theorem d47_3 : decode (mB m47) 3 = .ok (.dup, 1) := by decide +kernel
theorem d47_4 : decode (mB m47) 4 = .ok (.bipush 8, 2) := by decide +kernel
theorem d47_6 : decode (mB m47) 6 = .ok (.iconst 4, 1) := by decide +kernel
theorem d47_7 : decode (mB m47) 7 = .ok (.invokespecial 26, 3) := by decide +kernel
theorem d47_10 : decode (mB m47) 10 = .ok (.astore_n 1, 1) := by decide +kernel
theorem d47_11 : decode (mB m47) 11 = .ok (.iconst 0, 1) := by decide +kernel
theorem d47_12 : decode (mB m47) 12 = .ok (.istore_n 2, 1) := by decide +kernel
theorem d47_13 : decode (mB m47) 13 = .ok (.iconst 0, 1) := by decide +kernel
theorem d47_14 : decode (mB m47) 14 = .ok (.istore_n 3, 1) := by decide +kernel
theorem d47_15 : decode (mB m47) 15 = .ok (.iconst 0, 1) := by decide +kernel
theorem d47_16 : decode (mB m47) 16 = .ok (.istore 4, 2) := by decide +kernel
theorem d47_18 : decode (mB m47) 18 = .ok (.iconst 0, 1) := by decide +kernel
theorem d47_19 : decode (mB m47) 19 = .ok (.istore 5, 2) := by decide +kernel
theorem d47_21 : decode (mB m47) 21 = .ok (.iconst 0, 1) := by decide +kernel
theorem d47_22 : decode (mB m47) 22 = .ok (.istore 6, 2) := by decide +kernel
theorem d47_24 : decode (mB m47) 24 = .ok (.iload 6, 2) := by decide +kernel
theorem d47_26 : decode (mB m47) 26 = .ok (.iconst 3, 1) := by decide +kernel
theorem d47_27 : decode (mB m47) 27 = .ok (.iadd, 1) := by decide +kernel
theorem d47_28 : decode (mB m47) 28 = .ok (.aload_n 0, 1) := by decide +kernel
theorem d47_29 : decode (mB m47) 29 = .ok (.arraylength, 1) := by decide +kernel
theorem d47_30 : decode (mB m47) 30 = .ok (.if_icmp .ge 802, 3) := by decide +kernel
theorem d47_33 : decode (mB m47) 33 = .ok (.aload_n 0, 1) := by decide +kernel
theorem d47_34 : decode (mB m47) 34 = .ok (.iload 6, 2) := by decide +kernel
theorem d47_36 : decode (mB m47) 36 = .ok (.iaload, 1) := by decide +kernel
theorem d47_37 : decode (mB m47) 37 = .ok (.bipush 15, 2) := by decide +kernel
theorem d47_39 : decode (mB m47) 39 = .ok (.iand, 1) := by decide +kernel
theorem d47_40 : decode (mB m47) 40 = .ok (.bipush 9, 2) := by decide +kernel
theorem d47_42 : decode (mB m47) 42 = .ok (.irem, 1) := by decide +kernel
theorem d47_43 : decode (mB m47) 43 = .ok (.istore 7, 2) := by decide +kernel
theorem d47_45 : decode (mB m47) 45 = .ok (.aload_n 0, 1) := by decide +kernel
theorem d47_46 : decode (mB m47) 46 = .ok (.iload 6, 2) := by decide +kernel
theorem d47_48 : decode (mB m47) 48 = .ok (.iconst 1, 1) := by decide +kernel
theorem d47_49 : decode (mB m47) 49 = .ok (.iadd, 1) := by decide +kernel
theorem d47_50 : decode (mB m47) 50 = .ok (.iaload, 1) := by decide +kernel
theorem d47_51 : decode (mB m47) 51 = .ok (.istore 8, 2) := by decide +kernel
theorem d47_53 : decode (mB m47) 53 = .ok (.aload_n 0, 1) := by decide +kernel
theorem d47_54 : decode (mB m47) 54 = .ok (.iload 6, 2) := by decide +kernel
theorem d47_56 : decode (mB m47) 56 = .ok (.iconst 2, 1) := by decide +kernel
theorem d47_57 : decode (mB m47) 57 = .ok (.iadd, 1) := by decide +kernel
theorem d47_58 : decode (mB m47) 58 = .ok (.iaload, 1) := by decide +kernel
theorem d47_59 : decode (mB m47) 59 = .ok (.istore 9, 2) := by decide +kernel
theorem d47_61 : decode (mB m47) 61 = .ok (.aload_n 0, 1) := by decide +kernel
theorem d47_62 : decode (mB m47) 62 = .ok (.iload 6, 2) := by decide +kernel
theorem d47_64 : decode (mB m47) 64 = .ok (.iconst 3, 1) := by decide +kernel
theorem d47_65 : decode (mB m47) 65 = .ok (.iadd, 1) := by decide +kernel
theorem d47_66 : decode (mB m47) 66 = .ok (.iaload, 1) := by decide +kernel
theorem d47_67 : decode (mB m47) 67 = .ok (.istore 10, 2) := by decide +kernel
theorem d47_69 : decode (mB m47) 69 = .ok (.iload 8, 2) := by decide +kernel
theorem d47_71 : decode (mB m47) 71 = .ok (.bipush 7, 2) := by decide +kernel
theorem d47_73 : decode (mB m47) 73 = .ok (.iand, 1) := by decide +kernel
theorem d47_74 : decode (mB m47) 74 = .ok (.iconst 5, 1) := by decide +kernel
theorem d47_75 : decode (mB m47) 75 = .ok (.irem, 1) := by decide +kernel
theorem d47_76 : decode (mB m47) 76 = .ok (.istore 11, 2) := by decide +kernel
theorem d47_78 : decode (mB m47) 78 = .ok (.iload 9, 2) := by decide +kernel
theorem d47_80 : decode (mB m47) 80 = .ok (.bipush 7, 2) := by decide +kernel
theorem d47_82 : decode (mB m47) 82 = .ok (.iand, 1) := by decide +kernel
theorem d47_83 : decode (mB m47) 83 = .ok (.iconst 5, 1) := by decide +kernel
theorem d47_84 : decode (mB m47) 84 = .ok (.irem, 1) := by decide +kernel
theorem d47_85 : decode (mB m47) 85 = .ok (.istore 12, 2) := by decide +kernel
theorem d47_87 : decode (mB m47) 87 = .ok (.iload 8, 2) := by decide +kernel
theorem d47_89 : decode (mB m47) 89 = .ok (.bipush 15, 2) := by decide +kernel
theorem d47_91 : decode (mB m47) 91 = .ok (.iand, 1) := by decide +kernel
theorem d47_92 : decode (mB m47) 92 = .ok (.bipush 9, 2) := by decide +kernel
theorem d47_94 : decode (mB m47) 94 = .ok (.irem, 1) := by decide +kernel
theorem d47_95 : decode (mB m47) 95 = .ok (.istore 13, 2) := by decide +kernel
theorem d47_97 : decode (mB m47) 97 = .ok (.aload_n 1, 1) := by decide +kernel
theorem d47_98 : decode (mB m47) 98 = .ok (.iload 11, 2) := by decide +kernel
theorem d47_100 : decode (mB m47) 100 = .ok (.iload 12, 2) := by decide +kernel
theorem d47_102 : decode (mB m47) 102 = .ok (.invokevirtual 29, 3) := by decide +kernel
theorem d47_105 : decode (mB m47) 105 = .ok (.istore 14, 2) := by decide +kernel
theorem d47_107 : decode (mB m47) 107 = .ok (.aload_n 1, 1) := by decide +kernel
theorem d47_108 : decode (mB m47) 108 = .ok (.iload 13, 2) := by decide +kernel
theorem d47_110 : decode (mB m47) 110 = .ok (.invokevirtual 7, 3) := by decide +kernel
theorem d47_113 : decode (mB m47) 113 = .ok (.istore 15, 2) := by decide +kernel
theorem d47_115 : decode (mB m47) 115 = .ok (.iload 7, 2) := by decide +kernel
theorem d47_117 : decode (mB m47) 117 = .ok (.ifCond .ne 179, 3) := by decide +kernel
theorem d47_120 : decode (mB m47) 120 = .ok (.aload_n 1, 1) := by decide +kernel
theorem d47_121 : decode (mB m47) 121 = .ok (.invokevirtual 19, 3) := by decide +kernel
theorem d47_124 : decode (mB m47) 124 = .ok (.istore 16, 2) := by decide +kernel
theorem d47_126 : decode (mB m47) 126 = .ok (.aload_n 1, 1) := by decide +kernel
theorem d47_127 : decode (mB m47) 127 = .ok (.iload 11, 2) := by decide +kernel
theorem d47_129 : decode (mB m47) 129 = .ok (.iload 12, 2) := by decide +kernel
theorem d47_131 : decode (mB m47) 131 = .ok (.iload 10, 2) := by decide +kernel
theorem d47_133 : decode (mB m47) 133 = .ok (.invokevirtual 33, 3) := by decide +kernel
theorem d47_136 : decode (mB m47) 136 = .ok (.istore 17, 2) := by decide +kernel
theorem d47_138 : decode (mB m47) 138 = .ok (.iload 11, 2) := by decide +kernel
theorem d47_140 : decode (mB m47) 140 = .ok (.iconst 3, 1) := by decide +kernel
theorem d47_141 : decode (mB m47) 141 = .ok (.if_icmp .gt 9, 3) := by decide +kernel
theorem d47_144 : decode (mB m47) 144 = .ok (.iload 12, 2) := by decide +kernel
theorem d47_146 : decode (mB m47) 146 = .ok (.iconst 3, 1) := by decide +kernel
theorem d47_147 : decode (mB m47) 147 = .ok (.if_icmp .le 11, 3) := by decide +kernel
theorem d47_150 : decode (mB m47) 150 = .ok (.iload 17, 2) := by decide +kernel
theorem d47_152 : decode (mB m47) 152 = .ok (.iconst (-1), 1) := by decide +kernel
theorem d47_153 : decode (mB m47) 153 = .ok (.if_icmp .eq 140, 3) := by decide +kernel
theorem d47_156 : decode (mB m47) 156 = .ok (.iconst 0, 1) := by decide +kernel
theorem d47_157 : decode (mB m47) 157 = .ok (.ireturn, 1) := by decide +kernel
theorem d47_158 : decode (mB m47) 158 = .ok (.iload 14, 2) := by decide +kernel
theorem d47_160 : decode (mB m47) 160 = .ok (.iconst (-1), 1) := by decide +kernel
theorem d47_161 : decode (mB m47) 161 = .ok (.if_icmp .eq 12, 3) := by decide +kernel
theorem d47_164 : decode (mB m47) 164 = .ok (.iload 17, 2) := by decide +kernel
theorem d47_166 : decode (mB m47) 166 = .ok (.bipush (-2), 2) := by decide +kernel
theorem d47_168 : decode (mB m47) 168 = .ok (.if_icmp .eq 125, 3) := by decide +kernel
theorem d47_171 : decode (mB m47) 171 = .ok (.iconst 0, 1) := by decide +kernel
theorem d47_172 : decode (mB m47) 172 = .ok (.ireturn, 1) := by decide +kernel
theorem d47_173 : decode (mB m47) 173 = .ok (.iload 16, 2) := by decide +kernel
theorem d47_175 : decode (mB m47) 175 = .ok (.ifCond .ne 12, 3) := by decide +kernel
theorem d47_178 : decode (mB m47) 178 = .ok (.iload 17, 2) := by decide +kernel
theorem d47_180 : decode (mB m47) 180 = .ok (.bipush (-4), 2) := by decide +kernel
theorem d47_182 : decode (mB m47) 182 = .ok (.if_icmp .eq 111, 3) := by decide +kernel
theorem d47_185 : decode (mB m47) 185 = .ok (.iconst 0, 1) := by decide +kernel
theorem d47_186 : decode (mB m47) 186 = .ok (.ireturn, 1) := by decide +kernel
theorem d47_187 : decode (mB m47) 187 = .ok (.iload 17, 2) := by decide +kernel
theorem d47_189 : decode (mB m47) 189 = .ok (.ifCond .lt 36, 3) := by decide +kernel
theorem d47_192 : decode (mB m47) 192 = .ok (.iload 17, 2) := by decide +kernel
theorem d47_194 : decode (mB m47) 194 = .ok (.bipush 7, 2) := by decide +kernel
theorem d47_196 : decode (mB m47) 196 = .ok (.if_icmp .gt 29, 3) := by decide +kernel
theorem d47_199 : decode (mB m47) 199 = .ok (.aload_n 1, 1) := by decide +kernel
theorem d47_200 : decode (mB m47) 200 = .ok (.iload 11, 2) := by decide +kernel
theorem d47_202 : decode (mB m47) 202 = .ok (.iload 12, 2) := by decide +kernel
theorem d47_204 : decode (mB m47) 204 = .ok (.invokevirtual 29, 3) := by decide +kernel
theorem d47_207 : decode (mB m47) 207 = .ok (.iload 17, 2) := by decide +kernel
theorem d47_209 : decode (mB m47) 209 = .ok (.if_icmp .ne 16, 3) := by decide +kernel
theorem d47_212 : decode (mB m47) 212 = .ok (.aload_n 1, 1) := by decide +kernel
theorem d47_213 : decode (mB m47) 213 = .ok (.iload 11, 2) := by decide +kernel
theorem d47_215 : decode (mB m47) 215 = .ok (.iload 12, 2) := by decide +kernel
theorem d47_217 : decode (mB m47) 217 = .ok (.invokevirtual 37, 3) := by decide +kernel
theorem d47_220 : decode (mB m47) 220 = .ok (.iload 10, 2) := by decide +kernel
theorem d47_222 : decode (mB m47) 222 = .ok (.if_icmp .eq 5, 3) := by decide +kernel
theorem d47_225 : decode (mB m47) 225 = .ok (.iconst 0, 1) := by decide +kernel
theorem d47_226 : decode (mB m47) 226 = .ok (.ireturn, 1) := by decide +kernel
theorem d47_227 : decode (mB m47) 227 = .ok (.aload_n 1, 1) := by decide +kernel
theorem d47_228 : decode (mB m47) 228 = .ok (.iload 17, 2) := by decide +kernel
theorem d47_230 : decode (mB m47) 230 = .ok (.invokevirtual 13, 3) := by decide +kernel
theorem d47_233 : decode (mB m47) 233 = .ok (.iconst 1, 1) := by decide +kernel
theorem d47_234 : decode (mB m47) 234 = .ok (.if_icmp .ne 24, 3) := by decide +kernel
theorem d47_237 : decode (mB m47) 237 = .ok (.aload_n 1, 1) := by decide +kernel
theorem d47_238 : decode (mB m47) 238 = .ok (.iload 17, 2) := by decide +kernel
theorem d47_240 : decode (mB m47) 240 = .ok (.invokevirtual 7, 3) := by decide +kernel
theorem d47_243 : decode (mB m47) 243 = .ok (.iconst 1, 1) := by decide +kernel
theorem d47_244 : decode (mB m47) 244 = .ok (.if_icmp .ne 14, 3) := by decide +kernel
theorem d47_247 : decode (mB m47) 247 = .ok (.aload_n 1, 1) := by decide +kernel
theorem d47_248 : decode (mB m47) 248 = .ok (.iload 17, 2) := by decide +kernel
theorem d47_250 : decode (mB m47) 250 = .ok (.invokevirtual 16, 3) := by decide +kernel
theorem d47_253 : decode (mB m47) 253 = .ok (.iload 10, 2) := by decide +kernel
theorem d47_255 : decode (mB m47) 255 = .ok (.if_icmp .eq 5, 3) := by decide +kernel
theorem d47_258 : decode (mB m47) 258 = .ok (.iconst 0, 1) := by decide +kernel
theorem d47_259 : decode (mB m47) 259 = .ok (.ireturn, 1) := by decide +kernel
theorem d47_260 : decode (mB m47) 260 = .ok (.iconst 0, 1) := by decide +kernel
theorem d47_261 : decode (mB m47) 261 = .ok (.istore 18, 2) := by decide +kernel
theorem d47_263 : decode (mB m47) 263 = .ok (.iload 18, 2) := by decide +kernel
theorem d47_265 : decode (mB m47) 265 = .ok (.iload 17, 2) := by decide +kernel
theorem d47_267 : decode (mB m47) 267 = .ok (.if_icmp .ge 20, 3) := by decide +kernel
theorem d47_270 : decode (mB m47) 270 = .ok (.aload_n 1, 1) := by decide +kernel
theorem d47_271 : decode (mB m47) 271 = .ok (.iload 18, 2) := by decide +kernel
theorem d47_273 : decode (mB m47) 273 = .ok (.invokevirtual 7, 3) := by decide +kernel
theorem d47_276 : decode (mB m47) 276 = .ok (.ifCond .ne 5, 3) := by decide +kernel
theorem d47_279 : decode (mB m47) 279 = .ok (.iconst 0, 1) := by decide +kernel
theorem d47_280 : decode (mB m47) 280 = .ok (.ireturn, 1) := by decide +kernel
theorem d47_281 : decode (mB m47) 281 = .ok (.iinc 18 1, 3) := by decide +kernel
theorem d47_284 : decode (mB m47) 284 = .ok (.goto (-21), 3) := by decide +kernel
theorem d47_287 : decode (mB m47) 287 = .ok (.iinc 2 1, 3) := by decide +kernel
theorem d47_290 : decode (mB m47) 290 = .ok (.iinc 3 1, 3) := by decide +kernel
theorem d47_293 : decode (mB m47) 293 = .ok (.goto 518, 3) := by decide +kernel
theorem d47_296 : decode (mB m47) 296 = .ok (.iload 7, 2) := by decide +kernel
theorem d47_298 : decode (mB m47) 298 = .ok (.iconst 1, 1) := by decide +kernel
theorem d47_299 : decode (mB m47) 299 = .ok (.if_icmp .ne 119, 3) := by decide +kernel
theorem d47_302 : decode (mB m47) 302 = .ok (.aload_n 1, 1) := by decide +kernel
theorem d47_303 : decode (mB m47) 303 = .ok (.iload 10, 2) := by decide +kernel
theorem d47_305 : decode (mB m47) 305 = .ok (.iconst 3, 1) := by decide +kernel
theorem d47_306 : decode (mB m47) 306 = .ok (.iand, 1) := by decide +kernel
theorem d47_307 : decode (mB m47) 307 = .ok (.iload 10, 2) := by decide +kernel
theorem d47_309 : decode (mB m47) 309 = .ok (.iconst 2, 1) := by decide +kernel
theorem d47_310 : decode (mB m47) 310 = .ok (.ishr, 1) := by decide +kernel
theorem d47_311 : decode (mB m47) 311 = .ok (.iconst 3, 1) := by decide +kernel
theorem d47_312 : decode (mB m47) 312 = .ok (.iand, 1) := by decide +kernel
theorem d47_313 : decode (mB m47) 313 = .ok (.invokevirtual 29, 3) := by decide +kernel
theorem d47_316 : decode (mB m47) 316 = .ok (.istore 16, 2) := by decide +kernel
theorem d47_318 : decode (mB m47) 318 = .ok (.aload_n 1, 1) := by decide +kernel
theorem d47_319 : decode (mB m47) 319 = .ok (.iload 11, 2) := by decide +kernel
theorem d47_321 : decode (mB m47) 321 = .ok (.iload 12, 2) := by decide +kernel
theorem d47_323 : decode (mB m47) 323 = .ok (.iload 10, 2) := by decide +kernel
theorem d47_325 : decode (mB m47) 325 = .ok (.iconst 3, 1) := by decide +kernel
theorem d47_326 : decode (mB m47) 326 = .ok (.iand, 1) := by decide +kernel
theorem d47_327 : decode (mB m47) 327 = .ok (.iload 10, 2) := by decide +kernel
theorem d47_329 : decode (mB m47) 329 = .ok (.iconst 2, 1) := by decide +kernel
theorem d47_330 : decode (mB m47) 330 = .ok (.ishr, 1) := by decide +kernel
theorem d47_331 : decode (mB m47) 331 = .ok (.iconst 3, 1) := by decide +kernel
theorem d47_332 : decode (mB m47) 332 = .ok (.iand, 1) := by decide +kernel
theorem d47_333 : decode (mB m47) 333 = .ok (.invokevirtual 40, 3) := by decide +kernel
theorem d47_336 : decode (mB m47) 336 = .ok (.istore 17, 2) := by decide +kernel
theorem d47_338 : decode (mB m47) 338 = .ok (.iload 11, 2) := by decide +kernel
theorem d47_340 : decode (mB m47) 340 = .ok (.iconst 3, 1) := by decide +kernel
theorem d47_341 : decode (mB m47) 341 = .ok (.if_icmp .gt 24, 3) := by decide +kernel
theorem d47_344 : decode (mB m47) 344 = .ok (.iload 12, 2) := by decide +kernel
theorem d47_346 : decode (mB m47) 346 = .ok (.iconst 3, 1) := by decide +kernel
theorem d47_347 : decode (mB m47) 347 = .ok (.if_icmp .gt 18, 3) := by decide +kernel
theorem d47_350 : decode (mB m47) 350 = .ok (.iload 14, 2) := by decide +kernel
theorem d47_352 : decode (mB m47) 352 = .ok (.iconst (-1), 1) := by decide +kernel
theorem d47_353 : decode (mB m47) 353 = .ok (.if_icmp .ne 12, 3) := by decide +kernel
theorem d47_356 : decode (mB m47) 356 = .ok (.iload 16, 2) := by decide +kernel
theorem d47_358 : decode (mB m47) 358 = .ok (.ifCond .lt 7, 3) := by decide +kernel
theorem d47_361 : decode (mB m47) 361 = .ok (.iconst 1, 1) := by decide +kernel
theorem d47_362 : decode (mB m47) 362 = .ok (.goto 4, 3) := by decide +kernel
theorem d47_365 : decode (mB m47) 365 = .ok (.iconst 0, 1) := by decide +kernel
theorem d47_366 : decode (mB m47) 366 = .ok (.istore 18, 2) := by decide +kernel
theorem d47_368 : decode (mB m47) 368 = .ok (.iload 18, 2) := by decide +kernel
theorem d47_370 : decode (mB m47) 370 = .ok (.iload 17, 2) := by decide +kernel
theorem d47_372 : decode (mB m47) 372 = .ok (.ifCond .lt 7, 3) := by decide +kernel
theorem d47_375 : decode (mB m47) 375 = .ok (.iconst 1, 1) := by decide +kernel
theorem d47_376 : decode (mB m47) 376 = .ok (.goto 4, 3) := by decide +kernel
theorem d47_379 : decode (mB m47) 379 = .ok (.iconst 0, 1) := by decide +kernel
theorem d47_380 : decode (mB m47) 380 = .ok (.if_icmp .eq 5, 3) := by decide +kernel
theorem d47_383 : decode (mB m47) 383 = .ok (.iconst 0, 1) := by decide +kernel
theorem d47_384 : decode (mB m47) 384 = .ok (.ireturn, 1) := by decide +kernel
theorem d47_385 : decode (mB m47) 385 = .ok (.iload 18, 2) := by decide +kernel
theorem d47_387 : decode (mB m47) 387 = .ok (.ifCond .eq 28, 3) := by decide +kernel
theorem d47_390 : decode (mB m47) 390 = .ok (.iload 17, 2) := by decide +kernel
theorem d47_392 : decode (mB m47) 392 = .ok (.iload 16, 2) := by decide +kernel
theorem d47_394 : decode (mB m47) 394 = .ok (.if_icmp .ne 16, 3) := by decide +kernel
theorem d47_397 : decode (mB m47) 397 = .ok (.aload_n 1, 1) := by decide +kernel
theorem d47_398 : decode (mB m47) 398 = .ok (.iload 11, 2) := by decide +kernel
theorem d47_400 : decode (mB m47) 400 = .ok (.iload 12, 2) := by decide +kernel
theorem d47_402 : decode (mB m47) 402 = .ok (.invokevirtual 29, 3) := by decide +kernel
theorem d47_405 : decode (mB m47) 405 = .ok (.iload 17, 2) := by decide +kernel
theorem d47_407 : decode (mB m47) 407 = .ok (.if_icmp .eq 5, 3) := by decide +kernel
theorem d47_410 : decode (mB m47) 410 = .ok (.iconst 0, 1) := by decide +kernel
theorem d47_411 : decode (mB m47) 411 = .ok (.ireturn, 1) := by decide +kernel
theorem d47_412 : decode (mB m47) 412 = .ok (.iinc 2 1, 3) := by decide +kernel
theorem d47_415 : decode (mB m47) 415 = .ok (.goto 396, 3) := by decide +kernel
theorem d47_418 : decode (mB m47) 418 = .ok (.iload 7, 2) := by decide +kernel
theorem d47_420 : decode (mB m47) 420 = .ok (.iconst 2, 1) := by decide +kernel
theorem d47_421 : decode (mB m47) 421 = .ok (.if_icmp .ne 77, 3) := by decide +kernel
theorem d47_424 : decode (mB m47) 424 = .ok (.aload_n 1, 1) := by decide +kernel
theorem d47_425 : decode (mB m47) 425 = .ok (.iload 14, 2) := by decide +kernel
theorem d47_427 : decode (mB m47) 427 = .ok (.invokevirtual 13, 3) := by decide +kernel
theorem d47_430 : decode (mB m47) 430 = .ok (.istore 16, 2) := by decide +kernel
theorem d47_432 : decode (mB m47) 432 = .ok (.aload_n 1, 1) := by decide +kernel
theorem d47_433 : decode (mB m47) 433 = .ok (.iload 14, 2) := by decide +kernel
theorem d47_435 : decode (mB m47) 435 = .ok (.invokevirtual 7, 3) := by decide +kernel
theorem d47_438 : decode (mB m47) 438 = .ok (.istore 17, 2) := by decide +kernel
theorem d47_440 : decode (mB m47) 440 = .ok (.aload_n 1, 1) := by decide +kernel
theorem d47_441 : decode (mB m47) 441 = .ok (.iload 11, 2) := by decide +kernel
theorem d47_443 : decode (mB m47) 443 = .ok (.iload 12, 2) := by decide +kernel
theorem d47_445 : decode (mB m47) 445 = .ok (.invokevirtual 44, 3) := by decide +kernel
theorem d47_448 : decode (mB m47) 448 = .ok (.istore 18, 2) := by decide +kernel
theorem d47_450 : decode (mB m47) 450 = .ok (.iload 14, 2) := by decide +kernel
theorem d47_452 : decode (mB m47) 452 = .ok (.ifCond .lt 36, 3) := by decide +kernel
theorem d47_455 : decode (mB m47) 455 = .ok (.iload 18, 2) := by decide +kernel
theorem d47_457 : decode (mB m47) 457 = .ok (.iload 14, 2) := by decide +kernel
theorem d47_459 : decode (mB m47) 459 = .ok (.if_icmp .eq 5, 3) := by decide +kernel
theorem d47_462 : decode (mB m47) 462 = .ok (.iconst 0, 1) := by decide +kernel
theorem d47_463 : decode (mB m47) 463 = .ok (.ireturn, 1) := by decide +kernel
theorem d47_464 : decode (mB m47) 464 = .ok (.iinc 2 (-1), 3) := by decide +kernel
theorem d47_467 : decode (mB m47) 467 = .ok (.iload 16, 2) := by decide +kernel
theorem d47_469 : decode (mB m47) 469 = .ok (.iconst 1, 1) := by decide +kernel
theorem d47_470 : decode (mB m47) 470 = .ok (.if_icmp .ne 25, 3) := by decide +kernel
theorem d47_473 : decode (mB m47) 473 = .ok (.iinc 3 (-1), 3) := by decide +kernel
theorem d47_476 : decode (mB m47) 476 = .ok (.iload 17, 2) := by decide +kernel
theorem d47_478 : decode (mB m47) 478 = .ok (.iconst 2, 1) := by decide +kernel
theorem d47_479 : decode (mB m47) 479 = .ok (.if_icmp .ne 16, 3) := by decide +kernel
theorem d47_482 : decode (mB m47) 482 = .ok (.iinc 5 (-1), 3) := by decide +kernel
theorem d47_485 : decode (mB m47) 485 = .ok (.goto 10, 3) := by decide +kernel
theorem d47_488 : decode (mB m47) 488 = .ok (.iload 18, 2) := by decide +kernel
theorem d47_490 : decode (mB m47) 490 = .ok (.ifCond .lt 5, 3) := by decide +kernel
theorem d47_493 : decode (mB m47) 493 = .ok (.iconst 0, 1) := by decide +kernel
theorem d47_494 : decode (mB m47) 494 = .ok (.ireturn, 1) := by decide +kernel
theorem d47_495 : decode (mB m47) 495 = .ok (.goto 316, 3) := by decide +kernel
theorem d47_498 : decode (mB m47) 498 = .ok (.iload 7, 2) := by decide +kernel
theorem d47_500 : decode (mB m47) 500 = .ok (.iconst 3, 1) := by decide +kernel
theorem d47_501 : decode (mB m47) 501 = .ok (.if_icmp .ne 66, 3) := by decide +kernel
theorem d47_504 : decode (mB m47) 504 = .ok (.aload_n 1, 1) := by decide +kernel
theorem d47_505 : decode (mB m47) 505 = .ok (.iload 11, 2) := by decide +kernel
theorem d47_507 : decode (mB m47) 507 = .ok (.iload 12, 2) := by decide +kernel
theorem d47_509 : decode (mB m47) 509 = .ok (.iload 10, 2) := by decide +kernel
theorem d47_511 : decode (mB m47) 511 = .ok (.invokevirtual 47, 3) := by decide +kernel
theorem d47_514 : decode (mB m47) 514 = .ok (.istore 16, 2) := by decide +kernel
theorem d47_516 : decode (mB m47) 516 = .ok (.iload 16, 2) := by decide +kernel
theorem d47_518 : decode (mB m47) 518 = .ok (.iload 14, 2) := by decide +kernel
theorem d47_520 : decode (mB m47) 520 = .ok (.ifCond .lt 7, 3) := by decide +kernel
theorem d47_523 : decode (mB m47) 523 = .ok (.iconst 1, 1) := by decide +kernel
theorem d47_524 : decode (mB m47) 524 = .ok (.goto 4, 3) := by decide +kernel
theorem d47_527 : decode (mB m47) 527 = .ok (.iconst 0, 1) := by decide +kernel
theorem d47_528 : decode (mB m47) 528 = .ok (.if_icmp .eq 5, 3) := by decide +kernel
theorem d47_531 : decode (mB m47) 531 = .ok (.iconst 0, 1) := by decide +kernel
theorem d47_532 : decode (mB m47) 532 = .ok (.ireturn, 1) := by decide +kernel
theorem d47_533 : decode (mB m47) 533 = .ok (.iload 16, 2) := by decide +kernel
theorem d47_535 : decode (mB m47) 535 = .ok (.ifCond .eq 29, 3) := by decide +kernel
theorem d47_538 : decode (mB m47) 538 = .ok (.aload_n 1, 1) := by decide +kernel
theorem d47_539 : decode (mB m47) 539 = .ok (.iload 11, 2) := by decide +kernel
theorem d47_541 : decode (mB m47) 541 = .ok (.iload 12, 2) := by decide +kernel
theorem d47_543 : decode (mB m47) 543 = .ok (.invokevirtual 37, 3) := by decide +kernel
theorem d47_546 : decode (mB m47) 546 = .ok (.iload 10, 2) := by decide +kernel
theorem d47_548 : decode (mB m47) 548 = .ok (.if_icmp .ne 14, 3) := by decide +kernel
theorem d47_551 : decode (mB m47) 551 = .ok (.aload_n 1, 1) := by decide +kernel
theorem d47_552 : decode (mB m47) 552 = .ok (.iload 14, 2) := by decide +kernel
theorem d47_554 : decode (mB m47) 554 = .ok (.invokevirtual 16, 3) := by decide +kernel
theorem d47_557 : decode (mB m47) 557 = .ok (.iload 10, 2) := by decide +kernel
theorem d47_559 : decode (mB m47) 559 = .ok (.if_icmp .eq 5, 3) := by decide +kernel
theorem d47_562 : decode (mB m47) 562 = .ok (.iconst 0, 1) := by decide +kernel
theorem d47_563 : decode (mB m47) 563 = .ok (.ireturn, 1) := by decide +kernel
theorem d47_564 : decode (mB m47) 564 = .ok (.goto 247, 3) := by decide +kernel
theorem d47_567 : decode (mB m47) 567 = .ok (.iload 7, 2) := by decide +kernel
theorem d47_569 : decode (mB m47) 569 = .ok (.iconst 4, 1) := by decide +kernel
theorem d47_570 : decode (mB m47) 570 = .ok (.if_icmp .ne 40, 3) := by decide +kernel
theorem d47_573 : decode (mB m47) 573 = .ok (.aload_n 1, 1) := by decide +kernel
theorem d47_574 : decode (mB m47) 574 = .ok (.iload 13, 2) := by decide +kernel
theorem d47_576 : decode (mB m47) 576 = .ok (.invokevirtual 51, 3) := by decide +kernel
theorem d47_579 : decode (mB m47) 579 = .ok (.istore 16, 2) := by decide +kernel
theorem d47_581 : decode (mB m47) 581 = .ok (.iload 16, 2) := by decide +kernel
theorem d47_583 : decode (mB m47) 583 = .ok (.iload 15, 2) := by decide +kernel
theorem d47_585 : decode (mB m47) 585 = .ok (.iconst 1, 1) := by decide +kernel
theorem d47_586 : decode (mB m47) 586 = .ok (.if_icmp .ne 7, 3) := by decide +kernel
theorem d47_589 : decode (mB m47) 589 = .ok (.iconst 1, 1) := by decide +kernel
theorem d47_590 : decode (mB m47) 590 = .ok (.goto 4, 3) := by decide +kernel
theorem d47_593 : decode (mB m47) 593 = .ok (.iconst 0, 1) := by decide +kernel
theorem d47_594 : decode (mB m47) 594 = .ok (.if_icmp .eq 5, 3) := by decide +kernel
theorem d47_597 : decode (mB m47) 597 = .ok (.iconst 0, 1) := by decide +kernel
theorem d47_598 : decode (mB m47) 598 = .ok (.ireturn, 1) := by decide +kernel
theorem d47_599 : decode (mB m47) 599 = .ok (.iload 16, 2) := by decide +kernel
theorem d47_601 : decode (mB m47) 601 = .ok (.ifCond .eq 6, 3) := by decide +kernel
theorem d47_604 : decode (mB m47) 604 = .ok (.iinc 5 1, 3) := by decide +kernel
theorem d47_607 : decode (mB m47) 607 = .ok (.goto 204, 3) := by decide +kernel
theorem d47_610 : decode (mB m47) 610 = .ok (.iload 7, 2) := by decide +kernel
theorem d47_612 : decode (mB m47) 612 = .ok (.iconst 5, 1) := by decide +kernel
theorem d47_613 : decode (mB m47) 613 = .ok (.if_icmp .ne 40, 3) := by decide +kernel
theorem d47_616 : decode (mB m47) 616 = .ok (.aload_n 1, 1) := by decide +kernel
theorem d47_617 : decode (mB m47) 617 = .ok (.iload 13, 2) := by decide +kernel
theorem d47_619 : decode (mB m47) 619 = .ok (.invokevirtual 55, 3) := by decide +kernel
theorem d47_622 : decode (mB m47) 622 = .ok (.istore 16, 2) := by decide +kernel
theorem d47_624 : decode (mB m47) 624 = .ok (.iload 16, 2) := by decide +kernel
theorem d47_626 : decode (mB m47) 626 = .ok (.iload 15, 2) := by decide +kernel
theorem d47_628 : decode (mB m47) 628 = .ok (.iconst 2, 1) := by decide +kernel
theorem d47_629 : decode (mB m47) 629 = .ok (.if_icmp .ne 7, 3) := by decide +kernel
theorem d47_632 : decode (mB m47) 632 = .ok (.iconst 1, 1) := by decide +kernel
theorem d47_633 : decode (mB m47) 633 = .ok (.goto 4, 3) := by decide +kernel
theorem d47_636 : decode (mB m47) 636 = .ok (.iconst 0, 1) := by decide +kernel
theorem d47_637 : decode (mB m47) 637 = .ok (.if_icmp .eq 5, 3) := by decide +kernel
theorem d47_640 : decode (mB m47) 640 = .ok (.iconst 0, 1) := by decide +kernel
theorem d47_641 : decode (mB m47) 641 = .ok (.ireturn, 1) := by decide +kernel
theorem d47_642 : decode (mB m47) 642 = .ok (.iload 16, 2) := by decide +kernel
theorem d47_644 : decode (mB m47) 644 = .ok (.ifCond .eq 6, 3) := by decide +kernel
theorem d47_647 : decode (mB m47) 647 = .ok (.iinc 5 (-1), 3) := by decide +kernel
theorem d47_650 : decode (mB m47) 650 = .ok (.goto 161, 3) := by decide +kernel
theorem d47_653 : decode (mB m47) 653 = .ok (.iload 7, 2) := by decide +kernel
theorem d47_655 : decode (mB m47) 655 = .ok (.bipush 6, 2) := by decide +kernel
theorem d47_657 : decode (mB m47) 657 = .ok (.if_icmp .ne 70, 3) := by decide +kernel
theorem d47_660 : decode (mB m47) 660 = .ok (.iload 8, 2) := by decide +kernel
theorem d47_662 : decode (mB m47) 662 = .ok (.iconst 3, 1) := by decide +kernel
theorem d47_663 : decode (mB m47) 663 = .ok (.iand, 1) := by decide +kernel
theorem d47_664 : decode (mB m47) 664 = .ok (.istore 16, 2) := by decide +kernel
theorem d47_666 : decode (mB m47) 666 = .ok (.aload_n 1, 1) := by decide +kernel
theorem d47_667 : decode (mB m47) 667 = .ok (.iload 16, 2) := by decide +kernel
theorem d47_669 : decode (mB m47) 669 = .ok (.invokevirtual 58, 3) := by decide +kernel
theorem d47_672 : decode (mB m47) 672 = .ok (.istore 17, 2) := by decide +kernel
theorem d47_674 : decode (mB m47) 674 = .ok (.iload 17, 2) := by decide +kernel
theorem d47_676 : decode (mB m47) 676 = .ok (.ifCond .lt 39, 3) := by decide +kernel
theorem d47_679 : decode (mB m47) 679 = .ok (.iload 17, 2) := by decide +kernel
theorem d47_681 : decode (mB m47) 681 = .ok (.iconst 1, 1) := by decide +kernel
theorem d47_682 : decode (mB m47) 682 = .ok (.iload 16, 2) := by decide +kernel
theorem d47_684 : decode (mB m47) 684 = .ok (.ishl, 1) := by decide +kernel
theorem d47_685 : decode (mB m47) 685 = .ok (.irem, 1) := by decide +kernel
theorem d47_686 : decode (mB m47) 686 = .ok (.ifCond .ne 15, 3) := by decide +kernel
theorem d47_689 : decode (mB m47) 689 = .ok (.iload 17, 2) := by decide +kernel
theorem d47_691 : decode (mB m47) 691 = .ok (.iconst 1, 1) := by decide +kernel
theorem d47_692 : decode (mB m47) 692 = .ok (.iload 16, 2) := by decide +kernel
theorem d47_694 : decode (mB m47) 694 = .ok (.ishl, 1) := by decide +kernel
theorem d47_695 : decode (mB m47) 695 = .ok (.iadd, 1) := by decide +kernel
theorem d47_696 : decode (mB m47) 696 = .ok (.bipush 8, 2) := by decide +kernel
theorem d47_698 : decode (mB m47) 698 = .ok (.if_icmp .le 5, 3) := by decide +kernel
theorem d47_701 : decode (mB m47) 701 = .ok (.iconst 0, 1) := by decide +kernel
theorem d47_702 : decode (mB m47) 702 = .ok (.ireturn, 1) := by decide +kernel
theorem d47_703 : decode (mB m47) 703 = .ok (.iload 4, 2) := by decide +kernel
theorem d47_705 : decode (mB m47) 705 = .ok (.iconst 1, 1) := by decide +kernel
theorem d47_706 : decode (mB m47) 706 = .ok (.iload 16, 2) := by decide +kernel
theorem d47_708 : decode (mB m47) 708 = .ok (.ishl, 1) := by decide +kernel
theorem d47_709 : decode (mB m47) 709 = .ok (.iadd, 1) := by decide +kernel
theorem d47_710 : decode (mB m47) 710 = .ok (.istore 4, 2) := by decide +kernel
theorem d47_712 : decode (mB m47) 712 = .ok (.goto 12, 3) := by decide +kernel
theorem d47_715 : decode (mB m47) 715 = .ok (.iload 17, 2) := by decide +kernel
theorem d47_717 : decode (mB m47) 717 = .ok (.bipush (-4), 2) := by decide +kernel
theorem d47_719 : decode (mB m47) 719 = .ok (.if_icmp .eq 5, 3) := by decide +kernel
theorem d47_722 : decode (mB m47) 722 = .ok (.iconst 0, 1) := by decide +kernel
theorem d47_723 : decode (mB m47) 723 = .ok (.ireturn, 1) := by decide +kernel
theorem d47_724 : decode (mB m47) 724 = .ok (.goto 87, 3) := by decide +kernel
theorem d47_727 : decode (mB m47) 727 = .ok (.iload 7, 2) := by decide +kernel
theorem d47_729 : decode (mB m47) 729 = .ok (.bipush 7, 2) := by decide +kernel
theorem d47_731 : decode (mB m47) 731 = .ok (.if_icmp .ne 40, 3) := by decide +kernel
theorem d47_734 : decode (mB m47) 734 = .ok (.aload_n 1, 1) := by decide +kernel
theorem d47_735 : decode (mB m47) 735 = .ok (.iload 13, 2) := by decide +kernel
theorem d47_737 : decode (mB m47) 737 = .ok (.invokevirtual 61, 3) := by decide +kernel
theorem d47_740 : decode (mB m47) 740 = .ok (.istore 16, 2) := by decide +kernel
theorem d47_742 : decode (mB m47) 742 = .ok (.iload 16, 2) := by decide +kernel
theorem d47_744 : decode (mB m47) 744 = .ok (.iload 15, 2) := by decide +kernel
theorem d47_746 : decode (mB m47) 746 = .ok (.iconst 3, 1) := by decide +kernel
theorem d47_747 : decode (mB m47) 747 = .ok (.if_icmp .ne 7, 3) := by decide +kernel
theorem d47_750 : decode (mB m47) 750 = .ok (.iconst 1, 1) := by decide +kernel
theorem d47_751 : decode (mB m47) 751 = .ok (.goto 4, 3) := by decide +kernel
theorem d47_754 : decode (mB m47) 754 = .ok (.iconst 0, 1) := by decide +kernel
theorem d47_755 : decode (mB m47) 755 = .ok (.if_icmp .eq 5, 3) := by decide +kernel
theorem d47_758 : decode (mB m47) 758 = .ok (.iconst 0, 1) := by decide +kernel
theorem d47_759 : decode (mB m47) 759 = .ok (.ireturn, 1) := by decide +kernel
theorem d47_760 : decode (mB m47) 760 = .ok (.iload 16, 2) := by decide +kernel
theorem d47_762 : decode (mB m47) 762 = .ok (.ifCond .eq 6, 3) := by decide +kernel
theorem d47_765 : decode (mB m47) 765 = .ok (.iinc 4 (-1), 3) := by decide +kernel
theorem d47_768 : decode (mB m47) 768 = .ok (.goto 43, 3) := by decide +kernel
theorem d47_771 : decode (mB m47) 771 = .ok (.iload 8, 2) := by decide +kernel
theorem d47_773 : decode (mB m47) 773 = .ok (.bipush 7, 2) := by decide +kernel
theorem d47_775 : decode (mB m47) 775 = .ok (.iand, 1) := by decide +kernel
theorem d47_776 : decode (mB m47) 776 = .ok (.iconst 1, 1) := by decide +kernel
theorem d47_777 : decode (mB m47) 777 = .ok (.isub, 1) := by decide +kernel
theorem d47_778 : decode (mB m47) 778 = .ok (.istore 16, 2) := by decide +kernel
theorem d47_780 : decode (mB m47) 780 = .ok (.aload_n 1, 1) := by decide +kernel
theorem d47_781 : decode (mB m47) 781 = .ok (.iload 16, 2) := by decide +kernel
theorem d47_783 : decode (mB m47) 783 = .ok (.invokevirtual 64, 3) := by decide +kernel
theorem d47_786 : decode (mB m47) 786 = .ok (.istore 17, 2) := by decide +kernel
theorem d47_788 : decode (mB m47) 788 = .ok (.iload 17, 2) := by decide +kernel
theorem d47_790 : decode (mB m47) 790 = .ok (.ifCond .lt 19, 3) := by decide +kernel
theorem d47_793 : decode (mB m47) 793 = .ok (.iload 17, 2) := by decide +kernel
theorem d47_795 : decode (mB m47) 795 = .ok (.iload 16, 2) := by decide +kernel
theorem d47_797 : decode (mB m47) 797 = .ok (.ifCond .ge 7, 3) := by decide +kernel
theorem d47_800 : decode (mB m47) 800 = .ok (.iconst 0, 1) := by decide +kernel
theorem d47_801 : decode (mB m47) 801 = .ok (.goto 5, 3) := by decide +kernel
theorem d47_804 : decode (mB m47) 804 = .ok (.iload 16, 2) := by decide +kernel
theorem d47_806 : decode (mB m47) 806 = .ok (.if_icmp .le 5, 3) := by decide +kernel
theorem d47_809 : decode (mB m47) 809 = .ok (.iconst 0, 1) := by decide +kernel
theorem d47_810 : decode (mB m47) 810 = .ok (.ireturn, 1) := by decide +kernel
theorem d47_811 : decode (mB m47) 811 = .ok (.aload_n 1, 1) := by decide +kernel
theorem d47_812 : decode (mB m47) 812 = .ok (.iload_n 2, 1) := by decide +kernel
theorem d47_813 : decode (mB m47) 813 = .ok (.iload_n 3, 1) := by decide +kernel
theorem d47_814 : decode (mB m47) 814 = .ok (.iload 4, 2) := by decide +kernel
theorem d47_816 : decode (mB m47) 816 = .ok (.iload 5, 2) := by decide +kernel
theorem d47_818 : decode (mB m47) 818 = .ok (.invokestatic 67, 3) := by decide +kernel
theorem d47_821 : decode (mB m47) 821 = .ok (.ifCond .ne 5, 3) := by decide +kernel
theorem d47_824 : decode (mB m47) 824 = .ok (.iconst 0, 1) := by decide +kernel
theorem d47_825 : decode (mB m47) 825 = .ok (.ireturn, 1) := by decide +kernel
theorem d47_826 : decode (mB m47) 826 = .ok (.iinc 6 4, 3) := by decide +kernel
theorem d47_829 : decode (mB m47) 829 = .ok (.goto (-805), 3) := by decide +kernel
theorem d47_832 : decode (mB m47) 832 = .ok (.iconst 1, 1) := by decide +kernel
theorem d47_833 : decode (mB m47) 833 = .ok (.ireturn, 1) := by decide +kernel
theorem cb_m4 : (-4 : Int32) = (Int8.ofInt (-4)).toInt32 := by decide
theorem cb_m3 : (-3 : Int32) = (Int8.ofInt (-3)).toInt32 := by decide
theorem cb_m2 : (-2 : Int32) = (Int8.ofInt (-2)).toInt32 := by decide
theorem cb_6 : (6 : Int32) = (Int8.ofInt (6)).toInt32 := by decide
theorem cb_7 : (7 : Int32) = (Int8.ofInt (7)).toInt32 := by decide
theorem cb_8 : (8 : Int32) = (Int8.ofInt (8)).toInt32 := by decide
theorem cb_9 : (9 : Int32) = (Int8.ofInt (9)).toInt32 := by decide
theorem cb_15 : (15 : Int32) = (Int8.ofInt (15)).toInt32 := by decide
theorem cb_16 : (16 : Int32) = (Int8.ofInt (16)).toInt32 := by decide
theorem cb_32 : (32 : Int32) = (Int8.ofInt (32)).toInt32 := by decide
theorem cb_56 : (56 : Int32) = (Int8.ofInt (56)).toInt32 := by decide
theorem cb_63 : (63 : Int32) = (Int8.ofInt (63)).toInt32 := by decide
theorem cb_64 : (64 : Int32) = (Int8.ofInt (64)).toInt32 := by decide
theorem cb_65 : (65 : Int32) = (Int8.ofInt (65)).toInt32 := by decide
theorem ci_m1 : (-1 : Int32) = Int32.ofInt (-1) := by decide
theorem ci_0 : (0 : Int32) = Int32.ofInt (0) := by decide
theorem ci_1 : (1 : Int32) = Int32.ofInt (1) := by decide
theorem ci_2 : (2 : Int32) = Int32.ofInt (2) := by decide
theorem ci_3 : (3 : Int32) = Int32.ofInt (3) := by decide
theorem ci_4 : (4 : Int32) = Int32.ofInt (4) := by decide
theorem ci_5 : (5 : Int32) = Int32.ofInt (5) := by decide
theorem ci_8 : (8 : Int32) = Int32.ofInt (8) := by decide
theorem ci_16 : (16 : Int32) = Int32.ofInt (16) := by decide
theorem ci_32 : (32 : Int32) = Int32.ofInt (32) := by decide
theorem cl_0 : (0 : Int64) = Int64.ofNat ((0 : Fin 2)) := by decide
theorem cl_1 : (1 : Int64) = Int64.ofNat ((1 : Fin 2)) := by decide
theorem j_1_5 : 0 ≤ ((1 : Nat) : Int) + (5) ∧ (((1 : Nat) : Int) + (5)).toNat = 6 := by decide
theorem j_1_7 : 0 ≤ ((1 : Nat) : Int) + (7) ∧ (((1 : Nat) : Int) + (7)).toNat = 8 := by decide
theorem j_1_8 : 0 ≤ ((1 : Nat) : Int) + (8) ∧ (((1 : Nat) : Int) + (8)).toNat = 9 := by decide
theorem j_1_9 : 0 ≤ ((1 : Nat) : Int) + (9) ∧ (((1 : Nat) : Int) + (9)).toNat = 10 := by decide
theorem j_1_15 : 0 ≤ ((1 : Nat) : Int) + (15) ∧ (((1 : Nat) : Int) + (15)).toNat = 16 := by decide
theorem j_1_17 : 0 ≤ ((1 : Nat) : Int) + (17) ∧ (((1 : Nat) : Int) + (17)).toNat = 18 := by decide
theorem j_2_5 : 0 ≤ ((2 : Nat) : Int) + (5) ∧ (((2 : Nat) : Int) + (5)).toNat = 7 := by decide
theorem j_3_5 : 0 ≤ ((3 : Nat) : Int) + (5) ∧ (((3 : Nat) : Int) + (5)).toNat = 8 := by decide
theorem j_4_4 : 0 ≤ ((4 : Nat) : Int) + (4) ∧ (((4 : Nat) : Int) + (4)).toNat = 8 := by decide
theorem j_5_4 : 0 ≤ ((5 : Nat) : Int) + (4) ∧ (((5 : Nat) : Int) + (4)).toNat = 9 := by decide
theorem j_5_5 : 0 ≤ ((5 : Nat) : Int) + (5) ∧ (((5 : Nat) : Int) + (5)).toNat = 10 := by decide
theorem j_5_11 : 0 ≤ ((5 : Nat) : Int) + (11) ∧ (((5 : Nat) : Int) + (11)).toNat = 16 := by decide
theorem j_5_58 : 0 ≤ ((5 : Nat) : Int) + (58) ∧ (((5 : Nat) : Int) + (58)).toNat = 63 := by decide
theorem j_6_5 : 0 ≤ ((6 : Nat) : Int) + (5) ∧ (((6 : Nat) : Int) + (5)).toNat = 11 := by decide
theorem j_7_5 : 0 ≤ ((7 : Nat) : Int) + (5) ∧ (((7 : Nat) : Int) + (5)).toNat = 12 := by decide
theorem j_7_11 : 0 ≤ ((7 : Nat) : Int) + (11) ∧ (((7 : Nat) : Int) + (11)).toNat = 18 := by decide
theorem j_8_4 : 0 ≤ ((8 : Nat) : Int) + (4) ∧ (((8 : Nat) : Int) + (4)).toNat = 12 := by decide
theorem j_8_5 : 0 ≤ ((8 : Nat) : Int) + (5) ∧ (((8 : Nat) : Int) + (5)).toNat = 13 := by decide
theorem j_9_5 : 0 ≤ ((9 : Nat) : Int) + (5) ∧ (((9 : Nat) : Int) + (5)).toNat = 14 := by decide
theorem j_9_7 : 0 ≤ ((9 : Nat) : Int) + (7) ∧ (((9 : Nat) : Int) + (7)).toNat = 16 := by decide
theorem j_10_5 : 0 ≤ ((10 : Nat) : Int) + (5) ∧ (((10 : Nat) : Int) + (5)).toNat = 15 := by decide
theorem j_10_6 : 0 ≤ ((10 : Nat) : Int) + (6) ∧ (((10 : Nat) : Int) + (6)).toNat = 16 := by decide
theorem j_10_7 : 0 ≤ ((10 : Nat) : Int) + (7) ∧ (((10 : Nat) : Int) + (7)).toNat = 17 := by decide
theorem j_10_24 : 0 ≤ ((10 : Nat) : Int) + (24) ∧ (((10 : Nat) : Int) + (24)).toNat = 34 := by decide
theorem j_11_5 : 0 ≤ ((11 : Nat) : Int) + (5) ∧ (((11 : Nat) : Int) + (5)).toNat = 16 := by decide
theorem j_12_15 : 0 ≤ ((12 : Nat) : Int) + (15) ∧ (((12 : Nat) : Int) + (15)).toNat = 27 := by decide
theorem j_13_4 : 0 ≤ ((13 : Nat) : Int) + (4) ∧ (((13 : Nat) : Int) + (4)).toNat = 17 := by decide
theorem j_14_33 : 0 ≤ ((14 : Nat) : Int) + (33) ∧ (((14 : Nat) : Int) + (33)).toNat = 47 := by decide
theorem j_15_4 : 0 ≤ ((15 : Nat) : Int) + (4) ∧ (((15 : Nat) : Int) + (4)).toNat = 19 := by decide
theorem j_17_5 : 0 ≤ ((17 : Nat) : Int) + (5) ∧ (((17 : Nat) : Int) + (5)).toNat = 22 := by decide
theorem j_17_17 : 0 ≤ ((17 : Nat) : Int) + (17) ∧ (((17 : Nat) : Int) + (17)).toNat = 34 := by decide
theorem j_18_5 : 0 ≤ ((18 : Nat) : Int) + (5) ∧ (((18 : Nat) : Int) + (5)).toNat = 23 := by decide
theorem j_18_8 : 0 ≤ ((18 : Nat) : Int) + (8) ∧ (((18 : Nat) : Int) + (8)).toNat = 26 := by decide
theorem j_18_29 : 0 ≤ ((18 : Nat) : Int) + (29) ∧ (((18 : Nat) : Int) + (29)).toNat = 47 := by decide
theorem j_19_7 : 0 ≤ ((19 : Nat) : Int) + (7) ∧ (((19 : Nat) : Int) + (7)).toNat = 26 := by decide
theorem j_19_22 : 0 ≤ ((19 : Nat) : Int) + (22) ∧ (((19 : Nat) : Int) + (22)).toNat = 41 := by decide
theorem j_20_7 : 0 ≤ ((20 : Nat) : Int) + (7) ∧ (((20 : Nat) : Int) + (7)).toNat = 27 := by decide
theorem j_20_9 : 0 ≤ ((20 : Nat) : Int) + (9) ∧ (((20 : Nat) : Int) + (9)).toNat = 29 := by decide
theorem j_20_13 : 0 ≤ ((20 : Nat) : Int) + (13) ∧ (((20 : Nat) : Int) + (13)).toNat = 33 := by decide
theorem j_21_6 : 0 ≤ ((21 : Nat) : Int) + (6) ∧ (((21 : Nat) : Int) + (6)).toNat = 27 := by decide
theorem j_21_7 : 0 ≤ ((21 : Nat) : Int) + (7) ∧ (((21 : Nat) : Int) + (7)).toNat = 28 := by decide
theorem j_21_13 : 0 ≤ ((21 : Nat) : Int) + (13) ∧ (((21 : Nat) : Int) + (13)).toNat = 34 := by decide
theorem j_22_6 : 0 ≤ ((22 : Nat) : Int) + (6) ∧ (((22 : Nat) : Int) + (6)).toNat = 28 := by decide
theorem j_22_16 : 0 ≤ ((22 : Nat) : Int) + (16) ∧ (((22 : Nat) : Int) + (16)).toNat = 38 := by decide
theorem j_22_109 : 0 ≤ ((22 : Nat) : Int) + (109) ∧ (((22 : Nat) : Int) + (109)).toNat = 131 := by decide
theorem j_23_5 : 0 ≤ ((23 : Nat) : Int) + (5) ∧ (((23 : Nat) : Int) + (5)).toNat = 28 := by decide
theorem j_24_4 : 0 ≤ ((24 : Nat) : Int) + (4) ∧ (((24 : Nat) : Int) + (4)).toNat = 28 := by decide
theorem j_24_6 : 0 ≤ ((24 : Nat) : Int) + (6) ∧ (((24 : Nat) : Int) + (6)).toNat = 30 := by decide
theorem j_24_12 : 0 ≤ ((24 : Nat) : Int) + (12) ∧ (((24 : Nat) : Int) + (12)).toNat = 36 := by decide
theorem j_24_23 : 0 ≤ ((24 : Nat) : Int) + (23) ∧ (((24 : Nat) : Int) + (23)).toNat = 47 := by decide
theorem j_25_4 : 0 ≤ ((25 : Nat) : Int) + (4) ∧ (((25 : Nat) : Int) + (4)).toNat = 29 := by decide
theorem j_25_40 : 0 ≤ ((25 : Nat) : Int) + (40) ∧ (((25 : Nat) : Int) + (40)).toNat = 65 := by decide
theorem j_26_5 : 0 ≤ ((26 : Nat) : Int) + (5) ∧ (((26 : Nat) : Int) + (5)).toNat = 31 := by decide
theorem j_28_7 : 0 ≤ ((28 : Nat) : Int) + (7) ∧ (((28 : Nat) : Int) + (7)).toNat = 35 := by decide
theorem j_28_10 : 0 ≤ ((28 : Nat) : Int) + (10) ∧ (((28 : Nat) : Int) + (10)).toNat = 38 := by decide
theorem j_30_5 : 0 ≤ ((30 : Nat) : Int) + (5) ∧ (((30 : Nat) : Int) + (5)).toNat = 35 := by decide
theorem j_30_802 : 0 ≤ ((30 : Nat) : Int) + (802) ∧ (((30 : Nat) : Int) + (802)).toNat = 832 := by decide
theorem j_31_m24 : 0 ≤ ((31 : Nat) : Int) + (-24) ∧ (((31 : Nat) : Int) + (-24)).toNat = 7 := by decide
theorem j_32_5 : 0 ≤ ((32 : Nat) : Int) + (5) ∧ (((32 : Nat) : Int) + (5)).toNat = 37 := by decide
theorem j_33_4 : 0 ≤ ((33 : Nat) : Int) + (4) ∧ (((33 : Nat) : Int) + (4)).toNat = 37 := by decide
theorem j_35_14 : 0 ≤ ((35 : Nat) : Int) + (14) ∧ (((35 : Nat) : Int) + (14)).toNat = 49 := by decide
theorem j_37_7 : 0 ≤ ((37 : Nat) : Int) + (7) ∧ (((37 : Nat) : Int) + (7)).toNat = 44 := by decide
theorem j_37_69 : 0 ≤ ((37 : Nat) : Int) + (69) ∧ (((37 : Nat) : Int) + (69)).toNat = 106 := by decide
theorem j_38_m20 : 0 ≤ ((38 : Nat) : Int) + (-20) ∧ (((38 : Nat) : Int) + (-20)).toNat = 18 := by decide
theorem j_38_6 : 0 ≤ ((38 : Nat) : Int) + (6) ∧ (((38 : Nat) : Int) + (6)).toNat = 44 := by decide
theorem j_39_14 : 0 ≤ ((39 : Nat) : Int) + (14) ∧ (((39 : Nat) : Int) + (14)).toNat = 53 := by decide
theorem j_40_6 : 0 ≤ ((40 : Nat) : Int) + (6) ∧ (((40 : Nat) : Int) + (6)).toNat = 46 := by decide
theorem j_40_13 : 0 ≤ ((40 : Nat) : Int) + (13) ∧ (((40 : Nat) : Int) + (13)).toNat = 53 := by decide
theorem j_42_13 : 0 ≤ ((42 : Nat) : Int) + (13) ∧ (((42 : Nat) : Int) + (13)).toNat = 55 := by decide
theorem j_43_6 : 0 ≤ ((43 : Nat) : Int) + (6) ∧ (((43 : Nat) : Int) + (6)).toNat = 49 := by decide
theorem j_44_m34 : 0 ≤ ((44 : Nat) : Int) + (-34) ∧ (((44 : Nat) : Int) + (-34)).toNat = 10 := by decide
theorem j_44_6 : 0 ≤ ((44 : Nat) : Int) + (6) ∧ (((44 : Nat) : Int) + (6)).toNat = 50 := by decide
theorem j_46_7 : 0 ≤ ((46 : Nat) : Int) + (7) ∧ (((46 : Nat) : Int) + (7)).toNat = 53 := by decide
theorem j_46_12 : 0 ≤ ((46 : Nat) : Int) + (12) ∧ (((46 : Nat) : Int) + (12)).toNat = 58 := by decide
theorem j_47_20 : 0 ≤ ((47 : Nat) : Int) + (20) ∧ (((47 : Nat) : Int) + (20)).toNat = 67 := by decide
theorem j_50_12 : 0 ≤ ((50 : Nat) : Int) + (12) ∧ (((50 : Nat) : Int) + (12)).toNat = 62 := by decide
theorem j_50_22 : 0 ≤ ((50 : Nat) : Int) + (22) ∧ (((50 : Nat) : Int) + (22)).toNat = 72 := by decide
theorem j_52_6 : 0 ≤ ((52 : Nat) : Int) + (6) ∧ (((52 : Nat) : Int) + (6)).toNat = 58 := by decide
theorem j_53_14 : 0 ≤ ((53 : Nat) : Int) + (14) ∧ (((53 : Nat) : Int) + (14)).toNat = 67 := by decide
theorem j_55_51 : 0 ≤ ((55 : Nat) : Int) + (51) ∧ (((55 : Nat) : Int) + (51)).toNat = 106 := by decide
theorem j_56_5 : 0 ≤ ((56 : Nat) : Int) + (5) ∧ (((56 : Nat) : Int) + (5)).toNat = 61 := by decide
theorem j_56_9 : 0 ≤ ((56 : Nat) : Int) + (9) ∧ (((56 : Nat) : Int) + (9)).toNat = 65 := by decide
theorem j_58_12 : 0 ≤ ((58 : Nat) : Int) + (12) ∧ (((58 : Nat) : Int) + (12)).toNat = 70 := by decide
theorem j_60_m58 : 0 ≤ ((60 : Nat) : Int) + (-58) ∧ (((60 : Nat) : Int) + (-58)).toNat = 2 := by decide
theorem j_60_13 : 0 ≤ ((60 : Nat) : Int) + (13) ∧ (((60 : Nat) : Int) + (13)).toNat = 73 := by decide
theorem j_62_m40 : 0 ≤ ((62 : Nat) : Int) + (-40) ∧ (((62 : Nat) : Int) + (-40)).toNat = 22 := by decide
theorem j_63_13 : 0 ≤ ((63 : Nat) : Int) + (13) ∧ (((63 : Nat) : Int) + (13)).toNat = 76 := by decide
theorem j_64_11 : 0 ≤ ((64 : Nat) : Int) + (11) ∧ (((64 : Nat) : Int) + (11)).toNat = 75 := by decide
theorem j_67_58 : 0 ≤ ((67 : Nat) : Int) + (58) ∧ (((67 : Nat) : Int) + (58)).toNat = 125 := by decide
theorem j_68_6 : 0 ≤ ((68 : Nat) : Int) + (6) ∧ (((68 : Nat) : Int) + (6)).toNat = 74 := by decide
theorem j_72_16 : 0 ≤ ((72 : Nat) : Int) + (16) ∧ (((72 : Nat) : Int) + (16)).toNat = 88 := by decide
theorem j_75_13 : 0 ≤ ((75 : Nat) : Int) + (13) ∧ (((75 : Nat) : Int) + (13)).toNat = 88 := by decide
theorem j_77_18 : 0 ≤ ((77 : Nat) : Int) + (18) ∧ (((77 : Nat) : Int) + (18)).toNat = 95 := by decide
theorem j_79_12 : 0 ≤ ((79 : Nat) : Int) + (12) ∧ (((79 : Nat) : Int) + (12)).toNat = 91 := by decide
theorem j_83_42 : 0 ≤ ((83 : Nat) : Int) + (42) ∧ (((83 : Nat) : Int) + (42)).toNat = 125 := by decide
theorem j_84_11 : 0 ≤ ((84 : Nat) : Int) + (11) ∧ (((84 : Nat) : Int) + (11)).toNat = 95 := by decide
theorem j_84_12 : 0 ≤ ((84 : Nat) : Int) + (12) ∧ (((84 : Nat) : Int) + (12)).toNat = 96 := by decide
theorem j_85_49 : 0 ≤ ((85 : Nat) : Int) + (49) ∧ (((85 : Nat) : Int) + (49)).toNat = 134 := by decide
theorem j_90_16 : 0 ≤ ((90 : Nat) : Int) + (16) ∧ (((90 : Nat) : Int) + (16)).toNat = 106 := by decide
theorem j_91_9 : 0 ≤ ((91 : Nat) : Int) + (9) ∧ (((91 : Nat) : Int) + (9)).toNat = 100 := by decide
theorem j_97_12 : 0 ≤ ((97 : Nat) : Int) + (12) ∧ (((97 : Nat) : Int) + (12)).toNat = 109 := by decide
theorem j_97_26 : 0 ≤ ((97 : Nat) : Int) + (26) ∧ (((97 : Nat) : Int) + (26)).toNat = 123 := by decide
theorem j_103_m69 : 0 ≤ ((103 : Nat) : Int) + (-69) ∧ (((103 : Nat) : Int) + (-69)).toNat = 34 := by decide
theorem j_103_31 : 0 ≤ ((103 : Nat) : Int) + (31) ∧ (((103 : Nat) : Int) + (31)).toNat = 134 := by decide
theorem j_104_12 : 0 ≤ ((104 : Nat) : Int) + (12) ∧ (((104 : Nat) : Int) + (12)).toNat = 116 := by decide
theorem j_106_5 : 0 ≤ ((106 : Nat) : Int) + (5) ∧ (((106 : Nat) : Int) + (5)).toNat = 111 := by decide
theorem j_108_16 : 0 ≤ ((108 : Nat) : Int) + (16) ∧ (((108 : Nat) : Int) + (16)).toNat = 124 := by decide
theorem j_114_11 : 0 ≤ ((114 : Nat) : Int) + (11) ∧ (((114 : Nat) : Int) + (11)).toNat = 125 := by decide
theorem j_115_6 : 0 ≤ ((115 : Nat) : Int) + (6) ∧ (((115 : Nat) : Int) + (6)).toNat = 121 := by decide
theorem j_117_179 : 0 ≤ ((117 : Nat) : Int) + (179) ∧ (((117 : Nat) : Int) + (179)).toNat = 296 := by decide
theorem j_120_5 : 0 ≤ ((120 : Nat) : Int) + (5) ∧ (((120 : Nat) : Int) + (5)).toNat = 125 := by decide
theorem j_121_13 : 0 ≤ ((121 : Nat) : Int) + (13) ∧ (((121 : Nat) : Int) + (13)).toNat = 134 := by decide
theorem j_122_6 : 0 ≤ ((122 : Nat) : Int) + (6) ∧ (((122 : Nat) : Int) + (6)).toNat = 128 := by decide
theorem j_128_m110 : 0 ≤ ((128 : Nat) : Int) + (-110) ∧ (((128 : Nat) : Int) + (-110)).toNat = 18 := by decide
theorem j_138_12 : 0 ≤ ((138 : Nat) : Int) + (12) ∧ (((138 : Nat) : Int) + (12)).toNat = 150 := by decide
theorem j_141_9 : 0 ≤ ((141 : Nat) : Int) + (9) ∧ (((141 : Nat) : Int) + (9)).toNat = 150 := by decide
theorem j_147_5 : 0 ≤ ((147 : Nat) : Int) + (5) ∧ (((147 : Nat) : Int) + (5)).toNat = 152 := by decide
theorem j_147_11 : 0 ≤ ((147 : Nat) : Int) + (11) ∧ (((147 : Nat) : Int) + (11)).toNat = 158 := by decide
theorem j_153_140 : 0 ≤ ((153 : Nat) : Int) + (140) ∧ (((153 : Nat) : Int) + (140)).toNat = 293 := by decide
theorem j_160_7 : 0 ≤ ((160 : Nat) : Int) + (7) ∧ (((160 : Nat) : Int) + (7)).toNat = 167 := by decide
theorem j_161_12 : 0 ≤ ((161 : Nat) : Int) + (12) ∧ (((161 : Nat) : Int) + (12)).toNat = 173 := by decide
theorem j_164_4 : 0 ≤ ((164 : Nat) : Int) + (4) ∧ (((164 : Nat) : Int) + (4)).toNat = 168 := by decide
theorem j_168_125 : 0 ≤ ((168 : Nat) : Int) + (125) ∧ (((168 : Nat) : Int) + (125)).toNat = 293 := by decide
theorem j_171_7 : 0 ≤ ((171 : Nat) : Int) + (7) ∧ (((171 : Nat) : Int) + (7)).toNat = 178 := by decide
theorem j_175_4 : 0 ≤ ((175 : Nat) : Int) + (4) ∧ (((175 : Nat) : Int) + (4)).toNat = 179 := by decide
theorem j_175_12 : 0 ≤ ((175 : Nat) : Int) + (12) ∧ (((175 : Nat) : Int) + (12)).toNat = 187 := by decide
theorem j_179_9 : 0 ≤ ((179 : Nat) : Int) + (9) ∧ (((179 : Nat) : Int) + (9)).toNat = 188 := by decide
theorem j_182_111 : 0 ≤ ((182 : Nat) : Int) + (111) ∧ (((182 : Nat) : Int) + (111)).toNat = 293 := by decide
theorem j_185_5 : 0 ≤ ((185 : Nat) : Int) + (5) ∧ (((185 : Nat) : Int) + (5)).toNat = 190 := by decide
theorem j_189_36 : 0 ≤ ((189 : Nat) : Int) + (36) ∧ (((189 : Nat) : Int) + (36)).toNat = 225 := by decide
theorem j_193_26 : 0 ≤ ((193 : Nat) : Int) + (26) ∧ (((193 : Nat) : Int) + (26)).toNat = 219 := by decide
theorem j_196_29 : 0 ≤ ((196 : Nat) : Int) + (29) ∧ (((196 : Nat) : Int) + (29)).toNat = 225 := by decide
theorem j_199_20 : 0 ≤ ((199 : Nat) : Int) + (20) ∧ (((199 : Nat) : Int) + (20)).toNat = 219 := by decide
theorem j_206_13 : 0 ≤ ((206 : Nat) : Int) + (13) ∧ (((206 : Nat) : Int) + (13)).toNat = 219 := by decide
theorem j_209_16 : 0 ≤ ((209 : Nat) : Int) + (16) ∧ (((209 : Nat) : Int) + (16)).toNat = 225 := by decide
theorem j_212_7 : 0 ≤ ((212 : Nat) : Int) + (7) ∧ (((212 : Nat) : Int) + (7)).toNat = 219 := by decide
theorem j_216_4 : 0 ≤ ((216 : Nat) : Int) + (4) ∧ (((216 : Nat) : Int) + (4)).toNat = 220 := by decide
theorem j_222_5 : 0 ≤ ((222 : Nat) : Int) + (5) ∧ (((222 : Nat) : Int) + (5)).toNat = 227 := by decide
theorem j_234_24 : 0 ≤ ((234 : Nat) : Int) + (24) ∧ (((234 : Nat) : Int) + (24)).toNat = 258 := by decide
theorem j_244_14 : 0 ≤ ((244 : Nat) : Int) + (14) ∧ (((244 : Nat) : Int) + (14)).toNat = 258 := by decide
theorem j_255_5 : 0 ≤ ((255 : Nat) : Int) + (5) ∧ (((255 : Nat) : Int) + (5)).toNat = 260 := by decide
theorem j_267_20 : 0 ≤ ((267 : Nat) : Int) + (20) ∧ (((267 : Nat) : Int) + (20)).toNat = 287 := by decide
theorem j_276_5 : 0 ≤ ((276 : Nat) : Int) + (5) ∧ (((276 : Nat) : Int) + (5)).toNat = 281 := by decide
theorem j_284_m21 : 0 ≤ ((284 : Nat) : Int) + (-21) ∧ (((284 : Nat) : Int) + (-21)).toNat = 263 := by decide
theorem j_293_518 : 0 ≤ ((293 : Nat) : Int) + (518) ∧ (((293 : Nat) : Int) + (518)).toNat = 811 := by decide
theorem j_299_119 : 0 ≤ ((299 : Nat) : Int) + (119) ∧ (((299 : Nat) : Int) + (119)).toNat = 418 := by decide
theorem j_341_24 : 0 ≤ ((341 : Nat) : Int) + (24) ∧ (((341 : Nat) : Int) + (24)).toNat = 365 := by decide
theorem j_347_18 : 0 ≤ ((347 : Nat) : Int) + (18) ∧ (((347 : Nat) : Int) + (18)).toNat = 365 := by decide
theorem j_353_12 : 0 ≤ ((353 : Nat) : Int) + (12) ∧ (((353 : Nat) : Int) + (12)).toNat = 365 := by decide
theorem j_358_7 : 0 ≤ ((358 : Nat) : Int) + (7) ∧ (((358 : Nat) : Int) + (7)).toNat = 365 := by decide
theorem j_362_4 : 0 ≤ ((362 : Nat) : Int) + (4) ∧ (((362 : Nat) : Int) + (4)).toNat = 366 := by decide
theorem j_372_7 : 0 ≤ ((372 : Nat) : Int) + (7) ∧ (((372 : Nat) : Int) + (7)).toNat = 379 := by decide
theorem j_376_4 : 0 ≤ ((376 : Nat) : Int) + (4) ∧ (((376 : Nat) : Int) + (4)).toNat = 380 := by decide
theorem j_380_5 : 0 ≤ ((380 : Nat) : Int) + (5) ∧ (((380 : Nat) : Int) + (5)).toNat = 385 := by decide
theorem j_387_28 : 0 ≤ ((387 : Nat) : Int) + (28) ∧ (((387 : Nat) : Int) + (28)).toNat = 415 := by decide
theorem j_394_16 : 0 ≤ ((394 : Nat) : Int) + (16) ∧ (((394 : Nat) : Int) + (16)).toNat = 410 := by decide
theorem j_407_5 : 0 ≤ ((407 : Nat) : Int) + (5) ∧ (((407 : Nat) : Int) + (5)).toNat = 412 := by decide
theorem j_415_396 : 0 ≤ ((415 : Nat) : Int) + (396) ∧ (((415 : Nat) : Int) + (396)).toNat = 811 := by decide
theorem j_421_77 : 0 ≤ ((421 : Nat) : Int) + (77) ∧ (((421 : Nat) : Int) + (77)).toNat = 498 := by decide
theorem j_452_36 : 0 ≤ ((452 : Nat) : Int) + (36) ∧ (((452 : Nat) : Int) + (36)).toNat = 488 := by decide
theorem j_459_5 : 0 ≤ ((459 : Nat) : Int) + (5) ∧ (((459 : Nat) : Int) + (5)).toNat = 464 := by decide
theorem j_470_25 : 0 ≤ ((470 : Nat) : Int) + (25) ∧ (((470 : Nat) : Int) + (25)).toNat = 495 := by decide
theorem j_479_16 : 0 ≤ ((479 : Nat) : Int) + (16) ∧ (((479 : Nat) : Int) + (16)).toNat = 495 := by decide
theorem j_485_10 : 0 ≤ ((485 : Nat) : Int) + (10) ∧ (((485 : Nat) : Int) + (10)).toNat = 495 := by decide
theorem j_490_5 : 0 ≤ ((490 : Nat) : Int) + (5) ∧ (((490 : Nat) : Int) + (5)).toNat = 495 := by decide
theorem j_495_316 : 0 ≤ ((495 : Nat) : Int) + (316) ∧ (((495 : Nat) : Int) + (316)).toNat = 811 := by decide
theorem j_501_66 : 0 ≤ ((501 : Nat) : Int) + (66) ∧ (((501 : Nat) : Int) + (66)).toNat = 567 := by decide
theorem j_520_7 : 0 ≤ ((520 : Nat) : Int) + (7) ∧ (((520 : Nat) : Int) + (7)).toNat = 527 := by decide
theorem j_524_4 : 0 ≤ ((524 : Nat) : Int) + (4) ∧ (((524 : Nat) : Int) + (4)).toNat = 528 := by decide
theorem j_528_5 : 0 ≤ ((528 : Nat) : Int) + (5) ∧ (((528 : Nat) : Int) + (5)).toNat = 533 := by decide
theorem j_535_29 : 0 ≤ ((535 : Nat) : Int) + (29) ∧ (((535 : Nat) : Int) + (29)).toNat = 564 := by decide
theorem j_548_14 : 0 ≤ ((548 : Nat) : Int) + (14) ∧ (((548 : Nat) : Int) + (14)).toNat = 562 := by decide
theorem j_559_5 : 0 ≤ ((559 : Nat) : Int) + (5) ∧ (((559 : Nat) : Int) + (5)).toNat = 564 := by decide
theorem j_564_247 : 0 ≤ ((564 : Nat) : Int) + (247) ∧ (((564 : Nat) : Int) + (247)).toNat = 811 := by decide
theorem j_570_40 : 0 ≤ ((570 : Nat) : Int) + (40) ∧ (((570 : Nat) : Int) + (40)).toNat = 610 := by decide
theorem j_586_7 : 0 ≤ ((586 : Nat) : Int) + (7) ∧ (((586 : Nat) : Int) + (7)).toNat = 593 := by decide
theorem j_590_4 : 0 ≤ ((590 : Nat) : Int) + (4) ∧ (((590 : Nat) : Int) + (4)).toNat = 594 := by decide
theorem j_594_5 : 0 ≤ ((594 : Nat) : Int) + (5) ∧ (((594 : Nat) : Int) + (5)).toNat = 599 := by decide
theorem j_601_6 : 0 ≤ ((601 : Nat) : Int) + (6) ∧ (((601 : Nat) : Int) + (6)).toNat = 607 := by decide
theorem j_607_204 : 0 ≤ ((607 : Nat) : Int) + (204) ∧ (((607 : Nat) : Int) + (204)).toNat = 811 := by decide
theorem j_613_40 : 0 ≤ ((613 : Nat) : Int) + (40) ∧ (((613 : Nat) : Int) + (40)).toNat = 653 := by decide
theorem j_629_7 : 0 ≤ ((629 : Nat) : Int) + (7) ∧ (((629 : Nat) : Int) + (7)).toNat = 636 := by decide
theorem j_633_4 : 0 ≤ ((633 : Nat) : Int) + (4) ∧ (((633 : Nat) : Int) + (4)).toNat = 637 := by decide
theorem j_637_5 : 0 ≤ ((637 : Nat) : Int) + (5) ∧ (((637 : Nat) : Int) + (5)).toNat = 642 := by decide
theorem j_644_6 : 0 ≤ ((644 : Nat) : Int) + (6) ∧ (((644 : Nat) : Int) + (6)).toNat = 650 := by decide
theorem j_650_161 : 0 ≤ ((650 : Nat) : Int) + (161) ∧ (((650 : Nat) : Int) + (161)).toNat = 811 := by decide
theorem j_657_70 : 0 ≤ ((657 : Nat) : Int) + (70) ∧ (((657 : Nat) : Int) + (70)).toNat = 727 := by decide
theorem j_676_39 : 0 ≤ ((676 : Nat) : Int) + (39) ∧ (((676 : Nat) : Int) + (39)).toNat = 715 := by decide
theorem j_686_15 : 0 ≤ ((686 : Nat) : Int) + (15) ∧ (((686 : Nat) : Int) + (15)).toNat = 701 := by decide
theorem j_698_5 : 0 ≤ ((698 : Nat) : Int) + (5) ∧ (((698 : Nat) : Int) + (5)).toNat = 703 := by decide
theorem j_712_12 : 0 ≤ ((712 : Nat) : Int) + (12) ∧ (((712 : Nat) : Int) + (12)).toNat = 724 := by decide
theorem j_719_5 : 0 ≤ ((719 : Nat) : Int) + (5) ∧ (((719 : Nat) : Int) + (5)).toNat = 724 := by decide
theorem j_724_87 : 0 ≤ ((724 : Nat) : Int) + (87) ∧ (((724 : Nat) : Int) + (87)).toNat = 811 := by decide
theorem j_731_40 : 0 ≤ ((731 : Nat) : Int) + (40) ∧ (((731 : Nat) : Int) + (40)).toNat = 771 := by decide
theorem j_747_7 : 0 ≤ ((747 : Nat) : Int) + (7) ∧ (((747 : Nat) : Int) + (7)).toNat = 754 := by decide
theorem j_751_4 : 0 ≤ ((751 : Nat) : Int) + (4) ∧ (((751 : Nat) : Int) + (4)).toNat = 755 := by decide
theorem j_755_5 : 0 ≤ ((755 : Nat) : Int) + (5) ∧ (((755 : Nat) : Int) + (5)).toNat = 760 := by decide
theorem j_762_6 : 0 ≤ ((762 : Nat) : Int) + (6) ∧ (((762 : Nat) : Int) + (6)).toNat = 768 := by decide
theorem j_768_43 : 0 ≤ ((768 : Nat) : Int) + (43) ∧ (((768 : Nat) : Int) + (43)).toNat = 811 := by decide
theorem j_790_19 : 0 ≤ ((790 : Nat) : Int) + (19) ∧ (((790 : Nat) : Int) + (19)).toNat = 809 := by decide
theorem j_797_7 : 0 ≤ ((797 : Nat) : Int) + (7) ∧ (((797 : Nat) : Int) + (7)).toNat = 804 := by decide
theorem j_801_5 : 0 ≤ ((801 : Nat) : Int) + (5) ∧ (((801 : Nat) : Int) + (5)).toNat = 806 := by decide
theorem j_806_5 : 0 ≤ ((806 : Nat) : Int) + (5) ∧ (((806 : Nat) : Int) + (5)).toNat = 811 := by decide
theorem j_821_5 : 0 ≤ ((821 : Nat) : Int) + (5) ∧ (((821 : Nat) : Int) + (5)).toNat = 826 := by decide
theorem j_829_m805 : 0 ≤ ((829 : Nat) : Int) + (-805) ∧ (((829 : Nat) : Int) + (-805)).toNat = 24 := by decide
theorem lk_0_36 : LinkP PP "PageCompactorY" 36 m0 := ⟨List.mem_of_getElem? (i := 28) rfl, List.mem_of_getElem? (i := 29) rfl, List.mem_of_getElem? (i := 30) rfl, List.mem_of_getElem? (i := 31) rfl, rfl, rfl⟩
theorem lk_0_47 : LinkP PP "PageCompactorY" 47 m2 := ⟨List.mem_of_getElem? (i := 36) rfl, List.mem_of_getElem? (i := 37) rfl, List.mem_of_getElem? (i := 38) rfl, List.mem_of_getElem? (i := 39) rfl, rfl, rfl⟩
theorem lk_0_50 : LinkP PP "PageCompactorY" 50 m12 := ⟨List.mem_of_getElem? (i := 138) rfl, List.mem_of_getElem? (i := 139) rfl, List.mem_of_getElem? (i := 140) rfl, List.mem_of_getElem? (i := 141) rfl, rfl, rfl⟩
theorem lk_0_58 : LinkP PP "PageCompactorY" 58 m13 := ⟨List.mem_of_getElem? (i := 142) rfl, List.mem_of_getElem? (i := 143) rfl, List.mem_of_getElem? (i := 144) rfl, List.mem_of_getElem? (i := 145) rfl, rfl, rfl⟩
theorem lk_0_62 : LinkP PP "PageCompactorY" 62 m6 := ⟨List.mem_of_getElem? (i := 71) rfl, List.mem_of_getElem? (i := 72) rfl, List.mem_of_getElem? (i := 73) rfl, List.mem_of_getElem? (i := 74) rfl, rfl, rfl⟩
theorem lk_0_66 : LinkP PP "PageCompactorY" 66 m5 := ⟨List.mem_of_getElem? (i := 67) rfl, List.mem_of_getElem? (i := 68) rfl, List.mem_of_getElem? (i := 69) rfl, List.mem_of_getElem? (i := 70) rfl, rfl, rfl⟩
theorem lk_0_69 : LinkP PP "PageCompactorY" 69 m15 := ⟨List.mem_of_getElem? (i := 151) rfl, List.mem_of_getElem? (i := 152) rfl, List.mem_of_getElem? (i := 153) rfl, List.mem_of_getElem? (i := 154) rfl, rfl, rfl⟩
theorem lk_0_73 : LinkP PP "PageCompactorY" 73 m17 := ⟨List.mem_of_getElem? (i := 160) rfl, List.mem_of_getElem? (i := 161) rfl, List.mem_of_getElem? (i := 162) rfl, List.mem_of_getElem? (i := 163) rfl, rfl, rfl⟩
theorem lk_0_76 : LinkP PP "PageCompactorY" 76 m4 := ⟨List.mem_of_getElem? (i := 63) rfl, List.mem_of_getElem? (i := 64) rfl, List.mem_of_getElem? (i := 65) rfl, List.mem_of_getElem? (i := 66) rfl, rfl, rfl⟩
theorem lk_0_80 : LinkP PP "PageCompactorY" 80 m24 := ⟨List.mem_of_getElem? (i := 178) rfl, List.mem_of_getElem? (i := 179) rfl, List.mem_of_getElem? (i := 180) rfl, List.mem_of_getElem? (i := 181) rfl, rfl, rfl⟩
theorem lk_0_84 : LinkP PP "PageCompactorY" 84 m25 := ⟨List.mem_of_getElem? (i := 186) rfl, List.mem_of_getElem? (i := 187) rfl, List.mem_of_getElem? (i := 188) rfl, List.mem_of_getElem? (i := 189) rfl, rfl, rfl⟩
theorem lk_0_88 : LinkP PP "PageCompactorY" 88 m7 := ⟨List.mem_of_getElem? (i := 59) rfl, List.mem_of_getElem? (i := 60) rfl, List.mem_of_getElem? (i := 61) rfl, List.mem_of_getElem? (i := 62) rfl, rfl, rfl⟩
theorem lk_0_91 : LinkP PP "PageCompactorY" 91 m32 := ⟨List.mem_of_getElem? (i := 239) rfl, List.mem_of_getElem? (i := 240) rfl, List.mem_of_getElem? (i := 241) rfl, List.mem_of_getElem? (i := 242) rfl, rfl, rfl⟩
theorem lk_0_95 : LinkP PP "PageCompactorY" 95 m34 := ⟨List.mem_of_getElem? (i := 243) rfl, List.mem_of_getElem? (i := 244) rfl, List.mem_of_getElem? (i := 245) rfl, List.mem_of_getElem? (i := 246) rfl, rfl, rfl⟩
theorem lk_0_110 : LinkP PP "PageCompactorY" 110 m38 := ⟨List.mem_of_getElem? (i := 203) rfl, List.mem_of_getElem? (i := 204) rfl, List.mem_of_getElem? (i := 205) rfl, List.mem_of_getElem? (i := 206) rfl, rfl, rfl⟩
theorem lk_0_113 : LinkP PP "PageCompactorY" 113 m40 := ⟨List.mem_of_getElem? (i := 211) rfl, List.mem_of_getElem? (i := 212) rfl, List.mem_of_getElem? (i := 213) rfl, List.mem_of_getElem? (i := 214) rfl, rfl, rfl⟩
theorem lk_0_116 : LinkP PP "PageCompactorY" 116 m41 := ⟨List.mem_of_getElem? (i := 215) rfl, List.mem_of_getElem? (i := 216) rfl, List.mem_of_getElem? (i := 217) rfl, List.mem_of_getElem? (i := 218) rfl, rfl, rfl⟩
theorem lk_0_120 : LinkP PP "PageCompactorY" 120 m43 := ⟨List.mem_of_getElem? (i := 255) rfl, List.mem_of_getElem? (i := 256) rfl, List.mem_of_getElem? (i := 257) rfl, List.mem_of_getElem? (i := 258) rfl, rfl, rfl⟩
theorem lk_0_123 : LinkP PP "PageCompactorY" 123 m10 := ⟨List.mem_of_getElem? (i := 104) rfl, List.mem_of_getElem? (i := 105) rfl, List.mem_of_getElem? (i := 106) rfl, List.mem_of_getElem? (i := 107) rfl, rfl, rfl⟩
theorem lk_0_126 : LinkP PP "PageCompactorY" 126 m31 := ⟨List.mem_of_getElem? (i := 117) rfl, List.mem_of_getElem? (i := 118) rfl, List.mem_of_getElem? (i := 119) rfl, List.mem_of_getElem? (i := 120) rfl, rfl, rfl⟩
theorem lk_0_129 : LinkP PP "PageCompactorY" 129 m1 := ⟨List.mem_of_getElem? (i := 40) rfl, List.mem_of_getElem? (i := 41) rfl, List.mem_of_getElem? (i := 42) rfl, List.mem_of_getElem? (i := 43) rfl, rfl, rfl⟩
theorem lk_0_145 : LinkP PP "PageCompactorY" 145 m14 := ⟨List.mem_of_getElem? (i := 155) rfl, List.mem_of_getElem? (i := 156) rfl, List.mem_of_getElem? (i := 157) rfl, List.mem_of_getElem? (i := 158) rfl, rfl, rfl⟩
theorem lk_0_150 : LinkP PP "PageCompactorY" 150 m33 := ⟨List.mem_of_getElem? (i := 247) rfl, List.mem_of_getElem? (i := 248) rfl, List.mem_of_getElem? (i := 249) rfl, List.mem_of_getElem? (i := 250) rfl, rfl, rfl⟩
theorem lk_0_153 : LinkP PP "PageCompactorY" 153 m16 := ⟨List.mem_of_getElem? (i := 164) rfl, List.mem_of_getElem? (i := 165) rfl, List.mem_of_getElem? (i := 166) rfl, List.mem_of_getElem? (i := 167) rfl, rfl, rfl⟩
theorem lk_0_156 : LinkP PP "PageCompactorY" 156 m23 := ⟨List.mem_of_getElem? (i := 182) rfl, List.mem_of_getElem? (i := 183) rfl, List.mem_of_getElem? (i := 184) rfl, List.mem_of_getElem? (i := 185) rfl, rfl, rfl⟩
theorem lk_0_159 : LinkP PP "PageCompactorY" 159 m30 := ⟨List.mem_of_getElem? (i := 121) rfl, List.mem_of_getElem? (i := 122) rfl, List.mem_of_getElem? (i := 123) rfl, List.mem_of_getElem? (i := 124) rfl, rfl, rfl⟩
theorem lk_0_172 : LinkP PP "PageCompactorY" 172 m37 := ⟨List.mem_of_getElem? (i := 207) rfl, List.mem_of_getElem? (i := 208) rfl, List.mem_of_getElem? (i := 209) rfl, List.mem_of_getElem? (i := 210) rfl, rfl, rfl⟩
theorem lk_0_176 : LinkP PP "PageCompactorY" 176 m39 := ⟨List.mem_of_getElem? (i := 251) rfl, List.mem_of_getElem? (i := 252) rfl, List.mem_of_getElem? (i := 253) rfl, List.mem_of_getElem? (i := 254) rfl, rfl, rfl⟩
theorem lk_0_179 : LinkP PP "PageCompactorY" 179 m42 := ⟨List.mem_of_getElem? (i := 259) rfl, List.mem_of_getElem? (i := 260) rfl, List.mem_of_getElem? (i := 261) rfl, List.mem_of_getElem? (i := 262) rfl, rfl, rfl⟩
theorem lk_1_7 : LinkV PP "PageCompactorYL6" 7 m9 := ⟨List.mem_of_getElem? (i := 75) rfl, List.mem_of_getElem? (i := 76) rfl, List.mem_of_getElem? (i := 78) rfl, List.mem_of_getElem? (i := 77) rfl, List.mem_of_getElem? (i := 79) rfl, rfl, rfl⟩
theorem lk_1_13 : LinkV PP "PageCompactorYL6" 13 m20 := ⟨List.mem_of_getElem? (i := 89) rfl, List.mem_of_getElem? (i := 90) rfl, List.mem_of_getElem? (i := 92) rfl, List.mem_of_getElem? (i := 91) rfl, List.mem_of_getElem? (i := 93) rfl, rfl, rfl⟩
theorem lk_1_16 : LinkV PP "PageCompactorYL6" 16 m21 := ⟨List.mem_of_getElem? (i := 94) rfl, List.mem_of_getElem? (i := 95) rfl, List.mem_of_getElem? (i := 97) rfl, List.mem_of_getElem? (i := 96) rfl, List.mem_of_getElem? (i := 98) rfl, rfl, rfl⟩
theorem lk_1_19 : LinkV PP "PageCompactorYL6" 19 m11 := ⟨List.mem_of_getElem? (i := 99) rfl, List.mem_of_getElem? (i := 100) rfl, List.mem_of_getElem? (i := 102) rfl, List.mem_of_getElem? (i := 101) rfl, List.mem_of_getElem? (i := 103) rfl, rfl, rfl⟩
theorem lk_1_23 : LinkV PP "PageCompactorYL6" 23 m45 := ⟨List.mem_of_getElem? (i := 112) rfl, List.mem_of_getElem? (i := 113) rfl, List.mem_of_getElem? (i := 115) rfl, List.mem_of_getElem? (i := 114) rfl, List.mem_of_getElem? (i := 116) rfl, rfl, rfl⟩
theorem lk_1_26 : LinkI PP "PageCompactorYL6" 26 m3 := ⟨List.mem_of_getElem? (i := 3) rfl, List.mem_of_getElem? (i := 4) rfl, List.mem_of_getElem? (i := 5) rfl, rfl, rfl, rfl, rfl⟩
theorem lk_1_29 : LinkV PP "PageCompactorYL6" 29 m8 := ⟨List.mem_of_getElem? (i := 54) rfl, List.mem_of_getElem? (i := 55) rfl, List.mem_of_getElem? (i := 57) rfl, List.mem_of_getElem? (i := 56) rfl, List.mem_of_getElem? (i := 58) rfl, rfl, rfl⟩
theorem lk_1_33 : LinkV PP "PageCompactorYL6" 33 m18 := ⟨List.mem_of_getElem? (i := 133) rfl, List.mem_of_getElem? (i := 134) rfl, List.mem_of_getElem? (i := 136) rfl, List.mem_of_getElem? (i := 135) rfl, List.mem_of_getElem? (i := 137) rfl, rfl, rfl⟩
theorem lk_1_37 : LinkV PP "PageCompactorYL6" 37 m19 := ⟨List.mem_of_getElem? (i := 168) rfl, List.mem_of_getElem? (i := 169) rfl, List.mem_of_getElem? (i := 171) rfl, List.mem_of_getElem? (i := 170) rfl, List.mem_of_getElem? (i := 172) rfl, rfl, rfl⟩
theorem lk_1_40 : LinkV PP "PageCompactorYL6" 40 m22 := ⟨List.mem_of_getElem? (i := 128) rfl, List.mem_of_getElem? (i := 129) rfl, List.mem_of_getElem? (i := 131) rfl, List.mem_of_getElem? (i := 130) rfl, List.mem_of_getElem? (i := 132) rfl, rfl, rfl⟩
theorem lk_1_44 : LinkV PP "PageCompactorYL6" 44 m26 := ⟨List.mem_of_getElem? (i := 173) rfl, List.mem_of_getElem? (i := 174) rfl, List.mem_of_getElem? (i := 176) rfl, List.mem_of_getElem? (i := 175) rfl, List.mem_of_getElem? (i := 177) rfl, rfl, rfl⟩
theorem lk_1_47 : LinkV PP "PageCompactorYL6" 47 m27 := ⟨List.mem_of_getElem? (i := 80) rfl, List.mem_of_getElem? (i := 81) rfl, List.mem_of_getElem? (i := 83) rfl, List.mem_of_getElem? (i := 82) rfl, List.mem_of_getElem? (i := 84) rfl, rfl, rfl⟩
theorem lk_1_51 : LinkV PP "PageCompactorYL6" 51 m28 := ⟨List.mem_of_getElem? (i := 229) rfl, List.mem_of_getElem? (i := 230) rfl, List.mem_of_getElem? (i := 232) rfl, List.mem_of_getElem? (i := 231) rfl, List.mem_of_getElem? (i := 233) rfl, rfl, rfl⟩
theorem lk_1_55 : LinkV PP "PageCompactorYL6" 55 m29 := ⟨List.mem_of_getElem? (i := 219) rfl, List.mem_of_getElem? (i := 220) rfl, List.mem_of_getElem? (i := 222) rfl, List.mem_of_getElem? (i := 221) rfl, List.mem_of_getElem? (i := 223) rfl, rfl, rfl⟩
theorem lk_1_58 : LinkV PP "PageCompactorYL6" 58 m35 := ⟨List.mem_of_getElem? (i := 234) rfl, List.mem_of_getElem? (i := 235) rfl, List.mem_of_getElem? (i := 237) rfl, List.mem_of_getElem? (i := 236) rfl, List.mem_of_getElem? (i := 238) rfl, rfl, rfl⟩
theorem lk_1_61 : LinkV PP "PageCompactorYL6" 61 m36 := ⟨List.mem_of_getElem? (i := 224) rfl, List.mem_of_getElem? (i := 225) rfl, List.mem_of_getElem? (i := 227) rfl, List.mem_of_getElem? (i := 226) rfl, List.mem_of_getElem? (i := 228) rfl, rfl, rfl⟩
theorem lk_1_64 : LinkV PP "PageCompactorYL6" 64 m44 := ⟨List.mem_of_getElem? (i := 190) rfl, List.mem_of_getElem? (i := 191) rfl, List.mem_of_getElem? (i := 193) rfl, List.mem_of_getElem? (i := 192) rfl, List.mem_of_getElem? (i := 194) rfl, rfl, rfl⟩
theorem lk_1_67 : LinkS PP "PageCompactorYL6" 67 m46 := ⟨List.mem_of_getElem? (i := 85) rfl, List.mem_of_getElem? (i := 86) rfl, List.mem_of_getElem? (i := 87) rfl, List.mem_of_getElem? (i := 88) rfl, by decide⟩
theorem facts1 {Z : State} {a0 : Array Value} (hw : ∀ d ∈ tables_1, d.before a0 Z = true) : Facts Z a0 ci1 := by
  refine ⟨hw _ (List.mem_of_getElem? (i := 1) rfl), hw _ (List.mem_of_getElem? (i := 2) rfl), ?_, ?_, by decide, ?_, by decide⟩
  · intro f x hx
    match f, hx with
    | 0, hx => cases hx; exact ⟨Or.inl (hw _ (List.mem_of_getElem? (i := 33) rfl)), by decide⟩
    | 1, hx => cases hx; exact ⟨Or.inl (hw _ (List.mem_of_getElem? (i := 35) rfl)), by decide⟩
    | 2, hx => cases hx; exact ⟨Or.inl (hw _ (List.mem_of_getElem? (i := 45) rfl)), by decide⟩
    | 3, hx => cases hx; exact ⟨Or.inl (hw _ (List.mem_of_getElem? (i := 47) rfl)), by decide⟩
    | 4, hx => cases hx; exact ⟨Or.inl (hw _ (List.mem_of_getElem? (i := 49) rfl)), by decide⟩
    | 5, hx => cases hx; exact ⟨Or.inl (hw _ (List.mem_of_getElem? (i := 51) rfl)), by decide⟩
    | 6, hx => cases hx; exact ⟨Or.inl (hw _ (List.mem_of_getElem? (i := 53) rfl)), by decide⟩
    | 7, hx => cases hx; exact ⟨Or.inl (hw _ (List.mem_of_getElem? (i := 196) rfl)), by decide⟩
    | 8, hx => cases hx; exact ⟨Or.inl (hw _ (List.mem_of_getElem? (i := 198) rfl)), by decide⟩
    | 9, hx => cases hx; exact ⟨Or.inl (hw _ (List.mem_of_getElem? (i := 200) rfl)), by decide⟩
    | 10, hx => cases hx; exact ⟨Or.inl (hw _ (List.mem_of_getElem? (i := 202) rfl)), by decide⟩
    | n + 11, hx => simp [cS, ci1] at hx
  · intro q x hx
    match q, hx with
    | 0, hx => cases hx; exact ⟨Or.inr (hw _ (List.mem_of_getElem? (i := 11) rfl)), by decide⟩
    | 1, hx => cases hx; exact ⟨Or.inr (hw _ (List.mem_of_getElem? (i := 14) rfl)), by decide⟩
    | 2, hx => cases hx; exact ⟨Or.inr (hw _ (List.mem_of_getElem? (i := 16) rfl)), by decide⟩
    | 3, hx => cases hx; exact ⟨Or.inr (hw _ (List.mem_of_getElem? (i := 18) rfl)), by decide⟩
    | 4, hx => cases hx; exact ⟨Or.inr (hw _ (List.mem_of_getElem? (i := 20) rfl)), by decide⟩
    | 5, hx => cases hx; exact ⟨Or.inr (hw _ (List.mem_of_getElem? (i := 22) rfl)), by decide⟩
    | 6, hx => cases hx; exact ⟨Or.inr (hw _ (List.mem_of_getElem? (i := 24) rfl)), by decide⟩
    | 7, hx => cases hx; exact ⟨Or.inr (hw _ (List.mem_of_getElem? (i := 27) rfl)), by decide⟩
    | n + 8, hx => simp [cA, ci1] at hx
  · intro f x hx
    match f, hx with
    | 0, hx => cases hx; rfl
    | 1, hx => cases hx; rfl
    | 2, hx => cases hx; rfl
    | 3, hx => cases hx; rfl
    | 4, hx => cases hx; rfl
    | 5, hx => cases hx; rfl
    | 6, hx => cases hx; rfl
    | 7, hx => cases hx; rfl
    | 8, hx => cases hx; rfl
    | 9, hx => cases hx; rfl
    | 10, hx => cases hx; rfl
    | n + 11, hx => simp [cS, ci1] at hx
def k_clampInt  (v1 : Int32) (v2 : Int32) (v3 : Int32)  : Int32 :=
  if v1 < v2 then
    v2
  else
    if v3 < v1 then
      v3
    else
      v1
def k_lowMask  (v1 : Int32)  : Int64 :=
  if 0 < v1 then
    if v1 < (64 : Int32) then
      ((1 : Int64) <<< (v1.toInt64 &&& 63)) - (1 : Int64)
    else
      (-1 : Int64)
  else
    (0 : Int64)
def k_resetAll_63   (s : S) : Option S :=
  some (sI (sL (sL (sL (sL s 2 (k_lowMask (gI s 0))) 3 (0 : Int64)) 4 (0 : Int64)) 5 (0 : Int64)) 6 (1 : Int32))
def k_resetAll_2  : Nat → Int32 → S → Option S
  | 0, _, _ => none
  | n + 1, v1, s =>
    if v1 < (64 : Int32) then
      (Jvm.AM.st (gA s 0) v1 (nar .byte (0 : Int32))).bind fun a14 =>
      (Jvm.AM.st (gA s 1) v1 (0 : Int32)).bind fun a21 =>
      (Jvm.AM.st (gA s 2) v1 (0 : Int32)).bind fun a28 =>
      (Jvm.AM.st (gA s 3) v1 (-1 : Int32)).bind fun a35 =>
      (Jvm.AM.st (gA s 4) v1 (-1 : Int32)).bind fun a42 =>
      (Jvm.AM.st (gA s 5) v1 (-1 : Int32)).bind fun a49 =>
      (Jvm.AM.st (gA s 6) v1 (-1 : Int32)).bind fun a56 =>
      k_resetAll_2 n (v1 + (1 : Int32)) (sA (sA (sA (sA (sA (sA (sA s 0 a14) 1 a21) 2 a28) 3 a35) 4 a42) 5 a49) 6 a56)
    else
      k_resetAll_63 s
def k_resetAll   (s : S) : Option S :=
  k_resetAll_2 BIG (0 : Int32) s
def k_init  (v1 : Int32) (v2 : Int32)  : Option S :=
  (k_resetAll (sI (sI (sB (sA (sA (sA (sA (sA (sA (sA s0 0 (rep 64 0)) 1 (rep 64 0)) 2 (rep 64 0)) 3 (rep 64 0)) 4 (rep 64 0)) 5 (rep 64 0)) 6 (rep 64 0)) 7 (rep 7 0)) 0 (k_clampInt v1 (8 : Int32) (64 : Int32))) 1 (k_clampInt v2 (4 : Int32) (16 : Int32)))).bind fun r94 =>
  some r94
def k_pageInRange  (v1 : Int32) (v2 : Int32) (s : S) : Int32 :=
  if v1 < 0 then
    (0 : Int32)
  else
    if v1 < (4 : Int32) then
      if v2 < 0 then
        (0 : Int32)
      else
        if v2 < (gI s 1) then
          (1 : Int32)
        else
          (0 : Int32)
    else
      (0 : Int32)
def k_slotOf  (v1 : Int32) (v2 : Int32)  : Int32 :=
  (v1 * (16 : Int32)) + v2
def k_frameInRange  (v1 : Int32) (s : S) : Int32 :=
  if v1 < 0 then
    (0 : Int32)
  else
    if v1 < (gI s 0) then
      (1 : Int32)
    else
      (0 : Int32)
def k_mappedFrame  (v1 : Int32) (v2 : Int32) (s : S) : Option Int32 :=
  if (k_pageInRange v1 v2 s) = 0 then
    some (-1 : Int32)
  else
    (ix (gA s 3) (k_slotOf v1 v2)).bind fun a23 =>
    if (k_frameInRange a23 s) = 0 then
      some (-1 : Int32)
    else
      some a23
def k_frameOf  (v1 : Int32) (v2 : Int32) (s : S) : Option Int32 :=
  (k_mappedFrame v1 v2 s).bind fun r3 =>
  if r3 < 0 then
    some (-1 : Int32)
  else
    some r3
def k_frameState  (v1 : Int32) (s : S) : Option Int32 :=
  if (k_frameInRange v1 s) = 0 then
    some (-1 : Int32)
  else
    (ix (gA s 0) v1).bind fun a15 =>
    some a15
def k_bitCount_34  (v3 : Int64)  : Int32 :=
  (XT.ushrL (v3 * (72340172838076673 : Int64)) (56 : Int32)).toInt32
def k_bitCount  (v1 : Int64)  : Int32 :=
  k_bitCount_34 (((((v1 - ((XT.ushrL v1 (1 : Int32)) &&& (6148914691236517205 : Int64))) &&& (3689348814741910323 : Int64)) + ((XT.ushrL (v1 - ((XT.ushrL v1 (1 : Int32)) &&& (6148914691236517205 : Int64))) (2 : Int32)) &&& (3689348814741910323 : Int64))) + (XT.ushrL (((v1 - ((XT.ushrL v1 (1 : Int32)) &&& (6148914691236517205 : Int64))) &&& (3689348814741910323 : Int64)) + ((XT.ushrL (v1 - ((XT.ushrL v1 (1 : Int32)) &&& (6148914691236517205 : Int64))) (2 : Int32)) &&& (3689348814741910323 : Int64))) (4 : Int32))) &&& (1085102592571150095 : Int64))
def k_freeCount   (s : S) : Int32 :=
  (k_bitCount (gL s 2))
def k_checkTarget  (v1 : Int32) (v2 : Int32) (s : S) : Option Int32 :=
  if (k_pageInRange v1 v2 s) = 0 then
    some (-1 : Int32)
  else
    (ix (gA s 3) (k_slotOf v1 v2)).bind fun a23 =>
    if a23 < 0 then
      some (0 : Int32)
    else
      some (-2 : Int32)
def k_lowestBit_116  (v3 : Int32) (v4 : Int64)  : Int32 :=
  if (v4 &&& (1 : Int64)) = (0 : Int64) then
    v3 + (1 : Int32)
  else
    v3
def k_lowestBit_96  (v3 : Int32) (v4 : Int64)  : Int32 :=
  k_lowestBit_116 (if (v4 &&& (3 : Int64)) = (0 : Int64) then v3 + (2 : Int32) else v3) (if (v4 &&& (3 : Int64)) = (0 : Int64) then XT.ushrL v4 (2 : Int32) else v4)
def k_lowestBit_76  (v3 : Int32) (v4 : Int64)  : Int32 :=
  k_lowestBit_96 (if (v4 &&& (15 : Int64)) = (0 : Int64) then v3 + (4 : Int32) else v3) (if (v4 &&& (15 : Int64)) = (0 : Int64) then XT.ushrL v4 (4 : Int32) else v4)
def k_lowestBit_55  (v3 : Int32) (v4 : Int64)  : Int32 :=
  k_lowestBit_76 (if (v4 &&& (255 : Int64)) = (0 : Int64) then v3 + (8 : Int32) else v3) (if (v4 &&& (255 : Int64)) = (0 : Int64) then XT.ushrL v4 (8 : Int32) else v4)
def k_lowestBit_34  (v3 : Int32) (v4 : Int64)  : Int32 :=
  k_lowestBit_55 (if (v4 &&& (65535 : Int64)) = (0 : Int64) then v3 + (16 : Int32) else v3) (if (v4 &&& (65535 : Int64)) = (0 : Int64) then XT.ushrL v4 (16 : Int32) else v4)
def k_lowestBit  (v1 : Int64)  : Int32 :=
  if v1 = (0 : Int64) then
    (-1 : Int32)
  else
    k_lowestBit_34 (if (v1 &&& (4294967295 : Int64)) = (0 : Int64) then (0 : Int32) + (32 : Int32) else (0 : Int32)) (if (v1 &&& (4294967295 : Int64)) = (0 : Int64) then XT.ushrL v1 (32 : Int32) else v1)
def k_bitOf_10    : Int64 :=
  (0 : Int64)
def k_bitOf  (v1 : Int32)  : Int64 :=
  if v1 < 0 then
    k_bitOf_10
  else
    if (63 : Int32) < v1 then
      k_bitOf_10
    else
      (1 : Int64) <<< (v1.toInt64 &&& 63)
def k_enterState_134  (v1 : Int32) (v2 : Int32) (s : S) : Option S :=
  (Jvm.AM.st (gA s 0) v1 (nar .byte v2.toInt8.toInt32)).bind fun a141 =>
  some (sI (sA s 0 a141) 6 (1 : Int32))
def k_enterState  (v1 : Int32) (v2 : Int32) (s : S) : Option S :=
  if (k_frameInRange v1 s) = 0 then
    some s
  else
    if v2 = 0 then
      k_enterState_134 v1 v2 (sL (sL (sL (sL (sL s 2 ((gL s 2) &&& ((k_bitOf v1) ^^^ (-1 : Int64)))) 3 ((gL s 3) &&& ((k_bitOf v1) ^^^ (-1 : Int64)))) 4 ((gL s 4) &&& ((k_bitOf v1) ^^^ (-1 : Int64)))) 5 ((gL s 5) &&& ((k_bitOf v1) ^^^ (-1 : Int64)))) 2 (((gL s 2) &&& ((k_bitOf v1) ^^^ (-1 : Int64))) ||| (k_bitOf v1)))
    else
      if v2 = (1 : Int32) then
        k_enterState_134 v1 v2 (sL (sL (sL (sL (sL s 2 ((gL s 2) &&& ((k_bitOf v1) ^^^ (-1 : Int64)))) 3 ((gL s 3) &&& ((k_bitOf v1) ^^^ (-1 : Int64)))) 4 ((gL s 4) &&& ((k_bitOf v1) ^^^ (-1 : Int64)))) 5 ((gL s 5) &&& ((k_bitOf v1) ^^^ (-1 : Int64)))) 3 (((gL s 3) &&& ((k_bitOf v1) ^^^ (-1 : Int64))) ||| (k_bitOf v1)))
      else
        if v2 = (2 : Int32) then
          k_enterState_134 v1 v2 (sL (sL (sL (sL (sL s 2 ((gL s 2) &&& ((k_bitOf v1) ^^^ (-1 : Int64)))) 3 ((gL s 3) &&& ((k_bitOf v1) ^^^ (-1 : Int64)))) 4 ((gL s 4) &&& ((k_bitOf v1) ^^^ (-1 : Int64)))) 5 ((gL s 5) &&& ((k_bitOf v1) ^^^ (-1 : Int64)))) 4 (((gL s 4) &&& ((k_bitOf v1) ^^^ (-1 : Int64))) ||| (k_bitOf v1)))
        else
          k_enterState_134 v1 v2 (sL (sL (sL (sL (sL s 2 ((gL s 2) &&& ((k_bitOf v1) ^^^ (-1 : Int64)))) 3 ((gL s 3) &&& ((k_bitOf v1) ^^^ (-1 : Int64)))) 4 ((gL s 4) &&& ((k_bitOf v1) ^^^ (-1 : Int64)))) 5 ((gL s 5) &&& ((k_bitOf v1) ^^^ (-1 : Int64)))) 5 (((gL s 5) &&& ((k_bitOf v1) ^^^ (-1 : Int64))) ||| (k_bitOf v1)))
def k_rmapLink_38  (v1 : Int32) (v2 : Int32) (s : S) : Option S :=
  (Jvm.AM.st (gA s 4) v2 v1).bind fun a44 =>
  (Jvm.AM.st (gA s 3) v1 v2).bind fun a51 =>
  some (sA (sA s 4 a44) 3 a51)
def k_rmapLink  (v1 : Int32) (v2 : Int32) (s : S) : Option S :=
  (ix (gA s 4) v2).bind fun a5 =>
  (Jvm.AM.st (gA s 6) v1 (-1 : Int32)).bind fun a13 =>
  (Jvm.AM.st (gA s 5) v1 a5).bind fun a20 =>
  if a5 < 0 then
    k_rmapLink_38 v1 v2 (sA (sA s 6 a13) 5 a20)
  else
    if a5 < (64 : Int32) then
      (Jvm.AM.st a13 a5 v1).bind fun a37 =>
      k_rmapLink_38 v1 v2 (sA (sA (sA s 6 a13) 5 a20) 6 a37)
    else
      k_rmapLink_38 v1 v2 (sA (sA s 6 a13) 5 a20)
def k_attachPage  (v1 : Int32) (v2 : Int32) (s : S) : Option S :=
  if v1 < 0 then
    some s
  else
    if v1 < (64 : Int32) then
      if (k_frameInRange v2 s) = 0 then
        some s
      else
        (k_rmapLink v1 v2 s).bind fun r22 =>
        (ix (gA r22 2) v2).bind fun a35 =>
        (Jvm.AM.st (gA r22 2) v2 (a35 + (1 : Int32))).bind fun a38 =>
        some (sA r22 2 a38)
    else
      some s
def k_mapNew  (v1 : Int32) (v2 : Int32) (v3 : Int32) (s : S) : Option (Int32 × S) :=
  (k_checkTarget v1 v2 s).bind fun r3 =>
  if r3 = 0 then
    if (gL s 2) = (0 : Int64) then
      some ((-4 : Int32), s)
    else
      if (k_frameInRange (k_lowestBit (gL s 2)) s) = 0 then
        some ((-4 : Int32), s)
      else
        (k_enterState (k_lowestBit (gL s 2)) (1 : Int32) s).bind fun r62 =>
        (Jvm.AM.st (gA r62 1) (k_lowestBit (gL s 2)) v3).bind fun a72 =>
        (Jvm.AM.st (gA r62 2) (k_lowestBit (gL s 2)) (0 : Int32)).bind fun a80 =>
        (k_attachPage (k_slotOf v1 v2) (k_lowestBit (gL s 2)) (sA (sA r62 1 a72) 2 a80)).bind fun r86 =>
        some ((k_lowestBit (gL s 2)), r86)
  else
    some (r3, s)
def k_read  (v1 : Int32) (v2 : Int32) (s : S) : Option Int32 :=
  (k_mappedFrame v1 v2 s).bind fun r3 =>
  if r3 < 0 then
    some (0 : Int32)
  else
    (ix (gA s 1) r3).bind fun a18 =>
    some a18
def k_mapCount  (v1 : Int32) (s : S) : Option Int32 :=
  if (k_frameInRange v1 s) = 0 then
    some (0 : Int32)
  else
    (ix (gA s 2) v1).bind fun a15 =>
    some a15
def k_frameValue  (v1 : Int32) (s : S) : Option Int32 :=
  if (k_frameInRange v1 s) = 0 then
    some (0 : Int32)
  else
    (ix (gA s 0) v1).bind fun a15 =>
    if a15 = 0 then
      some (0 : Int32)
    else
      if a15 = (3 : Int32) then
        some (0 : Int32)
      else
        (ix (gA s 1) v1).bind fun a33 =>
        some a33
def k_share  (v1 : Int32) (v2 : Int32) (v3 : Int32) (v4 : Int32) (s : S) : Option (Int32 × S) :=
  if (k_pageInRange v1 v2 s) = 0 then
    some ((-1 : Int32), s)
  else
    if (k_pageInRange v3 v4 s) = 0 then
      some ((-1 : Int32), s)
    else
      (ix (gA s 3) (k_slotOf v1 v2)).bind fun a37 =>
      if a37 < 0 then
        (ix (gA s 3) (k_slotOf v3 v4)).bind fun a59 =>
        if (k_frameInRange a59 s) = 0 then
          some ((-3 : Int32), s)
        else
          (k_attachPage (k_slotOf v1 v2) a59 s).bind fun r79 =>
          some (a59, r79)
      else
        some ((-2 : Int32), s)
def k_rmapUnlink_95  (v1 : Int32) (v2 : Int32) (s : S) : Option (Int32 × S) :=
  (Jvm.AM.st (gA s 6) v1 (-1 : Int32)).bind fun a101 =>
  (Jvm.AM.st (gA s 5) v1 (-1 : Int32)).bind fun a108 =>
  (Jvm.AM.st (gA s 3) v1 (-1 : Int32)).bind fun a115 =>
  some (v2, sA (sA (sA s 6 a101) 5 a108) 3 a115)
def k_rmapUnlink_75  (v1 : Int32) (v2 : Int32) (v3 : Int32) (v4 : Int32) (s : S) : Option (Int32 × S) :=
  if v4 < 0 then
    k_rmapUnlink_95 v1 v2 s
  else
    if v4 < (64 : Int32) then
      (Jvm.AM.st (gA s 6) v4 v3).bind fun a94 =>
      k_rmapUnlink_95 v1 v2 (sA s 6 a94)
    else
      k_rmapUnlink_95 v1 v2 s
def k_rmapUnlink_67  (v1 : Int32) (v2 : Int32) (v3 : Int32) (v4 : Int32) (s : S) : Option (Int32 × S) :=
  (Jvm.AM.st (gA s 4) v2 v4).bind fun a74 =>
  k_rmapUnlink_75 v1 v2 v3 v4 (sA s 4 a74)
def k_rmapUnlink  (v1 : Int32) (s : S) : Option (Int32 × S) :=
  if v1 < 0 then
    some ((-1 : Int32), s)
  else
    if v1 < (64 : Int32) then
      (ix (gA s 3) v1).bind fun a17 =>
      if a17 < 0 then
        some ((-1 : Int32), s)
      else
        if a17 < (64 : Int32) then
          (ix (gA s 6) v1).bind fun a36 =>
          (ix (gA s 5) v1).bind fun a43 =>
          if a36 < 0 then
            k_rmapUnlink_67 v1 a17 a36 a43 s
          else
            if a36 < (64 : Int32) then
              (Jvm.AM.st (gA s 5) a36 a43).bind fun a63 =>
              k_rmapUnlink_75 v1 a17 a36 a43 (sA s 5 a63)
            else
              k_rmapUnlink_67 v1 a17 a36 a43 s
        else
          some ((-1 : Int32), s)
    else
      some ((-1 : Int32), s)
def k_detachPage  (v1 : Int32) (s : S) : Option (Int32 × S) :=
  (k_rmapUnlink v1 s).bind fun r2 =>
  if (k_frameInRange r2.1 r2.2) = 0 then
    some ((-1 : Int32), r2.2)
  else
    (ix (gA r2.2 2) r2.1).bind fun a26 =>
    (Jvm.AM.st (gA r2.2 2) r2.1 (a26 - (1 : Int32))).bind fun a29 =>
    some (r2.1, sA r2.2 2 a29)
def k_freeFrame  (v1 : Int32) (s : S) : Option S :=
  if (k_frameInRange v1 s) = 0 then
    some s
  else
    (Jvm.AM.st (gA s 1) v1 (0 : Int32)).bind fun a15 =>
    (Jvm.AM.st (gA s 2) v1 (0 : Int32)).bind fun a22 =>
    (Jvm.AM.st (gA s 4) v1 (-1 : Int32)).bind fun a29 =>
    (k_enterState v1 (0 : Int32) (sA (sA (sA s 1 a15) 2 a22) 4 a29)).bind fun r33 =>
    some r33
def k_unmap  (v1 : Int32) (v2 : Int32) (s : S) : Option (Int32 × S) :=
  if (k_pageInRange v1 v2 s) = 0 then
    some ((-1 : Int32), s)
  else
    (ix (gA s 3) (k_slotOf v1 v2)).bind fun a23 =>
    if a23 < 0 then
      some ((-3 : Int32), s)
    else
      (k_detachPage (k_slotOf v1 v2) s).bind fun r32 =>
      if (k_frameInRange r32.1 r32.2) = 0 then
        some ((-3 : Int32), r32.2)
      else
        (ix (gA r32.2 2) r32.1).bind fun a55 =>
        if 0 < a55 then
          some (r32.1, r32.2)
        else
          (k_freeFrame r32.1 r32.2).bind fun r62 =>
          some (r32.1, r62)
def k_write  (v1 : Int32) (v2 : Int32) (v3 : Int32) (s : S) : Option (Int32 × S) :=
  (k_mappedFrame v1 v2 s).bind fun r3 =>
  if r3 < 0 then
    some ((0 : Int32), s)
  else
    (Jvm.AM.st (gA s 1) r3 v3).bind fun a22 =>
    some ((1 : Int32), sA s 1 a22)
def k_pin  (v1 : Int32) (s : S) : Option (Int32 × S) :=
  if (k_frameInRange v1 s) = 0 then
    some ((0 : Int32), s)
  else
    (ix (gA s 0) v1).bind fun a15 =>
    if a15 = (1 : Int32) then
      (k_enterState v1 (2 : Int32) s).bind fun r25 =>
      some ((1 : Int32), r25)
    else
      some ((0 : Int32), s)
def k_unpin  (v1 : Int32) (s : S) : Option (Int32 × S) :=
  if (k_frameInRange v1 s) = 0 then
    some ((0 : Int32), s)
  else
    (ix (gA s 0) v1).bind fun a15 =>
    if a15 = (2 : Int32) then
      (k_enterState v1 (1 : Int32) s).bind fun r25 =>
      some ((1 : Int32), r25)
    else
      some ((0 : Int32), s)
def k_alignMask  (v1 : Int32)  : Int64 :=
  if v1 = 0 then
    (-1 : Int64)
  else
    if v1 = (1 : Int32) then
      (6148914691236517205 : Int64)
    else
      if v1 = (2 : Int32) then
        (1229782938247303441 : Int64)
      else
        if v1 = (3 : Int32) then
          (72340172838076673 : Int64)
        else
          if v1 = (4 : Int32) then
            (281479271743489 : Int64)
          else
            if v1 = (5 : Int32) then
              (4294967297 : Int64)
            else
              if v1 = (6 : Int32) then
                (1 : Int64)
              else
                (0 : Int64)
def k_refreshRuns_65   (s : S) : Option S :=
  some (sI s 6 (0 : Int32))
def k_refreshRuns_22  : Nat → Int64 → Int32 → S → Option S
  | 0, _, _, _ => none
  | n + 1, v1, v3, s =>
    if (6 : Int32) < v3 then
      k_refreshRuns_65 s
    else
      (Jvm.AM.st (gB s 7) v3 ((v1 &&& (XT.ushrL v1 ((1 : Int32) <<< ((v3 - (1 : Int32)) &&& 31)))) &&& (k_alignMask v3))).bind fun a58 =>
      k_refreshRuns_22 n ((v1 &&& (XT.ushrL v1 ((1 : Int32) <<< ((v3 - (1 : Int32)) &&& 31)))) &&& (k_alignMask v3)) (v3 + (1 : Int32)) (sB s 7 a58)
def k_refreshRuns   (s : S) : Option S :=
  if (gI s 6) = 0 then
    some s
  else
    (Jvm.AM.st (gB s 7) (0 : Int32) (gL s 2)).bind fun a19 =>
    k_refreshRuns_22 BIG (gL s 2) (1 : Int32) (sB s 7 a19)
def k_freeRunsOfOrder_10   (s : S) : Option (Int64 × S) :=
  some ((0 : Int64), s)
def k_freeRunsOfOrder  (v1 : Int32) (s : S) : Option (Int64 × S) :=
  if v1 < 0 then
    k_freeRunsOfOrder_10 s
  else
    if (6 : Int32) < v1 then
      k_freeRunsOfOrder_10 s
    else
      (k_refreshRuns s).bind fun r13 =>
      (ix (gB r13 7) v1).bind fun a21 =>
      some (a21, r13)
def k_reserveFrame  (v1 : Int32) (s : S) : Option S :=
  if (k_frameInRange v1 s) = 0 then
    some s
  else
    (Jvm.AM.st (gA s 1) v1 (0 : Int32)).bind fun a15 =>
    (Jvm.AM.st (gA s 2) v1 (0 : Int32)).bind fun a22 =>
    (Jvm.AM.st (gA s 4) v1 (-1 : Int32)).bind fun a29 =>
    (k_enterState v1 (3 : Int32) (sA (sA (sA s 1 a15) 2 a22) 4 a29)).bind fun r33 =>
    some r33
def k_reserveRun_7  : Nat → Int32 → Int32 → Int32 → S → Option S
  | 0, _, _, _, _ => none
  | n + 1, v1, v3, v4, s =>
    if v4 < v3 then
      if v4 < (64 : Int32) then
        (k_reserveFrame (v1 + v4) s).bind fun r25 =>
        k_reserveRun_7 n v1 v3 (v4 + (1 : Int32)) r25
      else
        some s
    else
      some s
def k_reserveRun  (v1 : Int32) (v2 : Int32) (s : S) : Option S :=
  k_reserveRun_7 BIG v1 ((1 : Int32) <<< (v2 &&& 31)) (0 : Int32) s
def k_allocBlock  (v1 : Int32) (s : S) : Option (Int32 × S) :=
  if v1 < 0 then
    some ((-1 : Int32), s)
  else
    if (6 : Int32) < v1 then
      some ((-1 : Int32), s)
    else
      (k_freeRunsOfOrder v1 s).bind fun r14 =>
      if r14.1 = (0 : Int64) then
        some ((-4 : Int32), r14.2)
      else
        if (k_frameInRange (k_lowestBit r14.1) r14.2) = 0 then
          some ((-4 : Int32), r14.2)
        else
          (k_reserveRun (k_lowestBit r14.1) v1 r14.2).bind fun r50 =>
          some ((k_lowestBit r14.1), r50)
def k_release  (v1 : Int32) (s : S) : Option (Int32 × S) :=
  if (k_frameInRange v1 s) = 0 then
    some ((0 : Int32), s)
  else
    (ix (gA s 0) v1).bind fun a15 =>
    if a15 = (3 : Int32) then
      (k_freeFrame v1 s).bind fun r24 =>
      some ((1 : Int32), r24)
    else
      some ((0 : Int32), s)
def k_rangeMask  (v1 : Int32) (v2 : Int32)  : Int64 :=
  if v1 < v2 then
    (k_lowMask v2) &&& ((k_lowMask v1) ^^^ (-1 : Int64))
  else
    (0 : Int64)
def k_advanceMigrateScanner   (s : S) : S :=
  if (gI s 9) < (gI s 10) then
    if ((gL s 3) &&& (k_rangeMask (gI s 9) (gI s 10))) = (0 : Int64) then
      sI s 9 (gI s 10)
    else
      sI s 9 (k_lowestBit ((gL s 3) &&& (k_rangeMask (gI s 9) (gI s 10))))
  else
    s
def k_highestBit_109  (v3 : Int32) (v4 : Int64)  : Int32 :=
  if (XT.ushrL v4 (1 : Int32)) = (0 : Int64) then
    v3
  else
    v3 + (1 : Int32)
def k_highestBit_91  (v3 : Int32) (v4 : Int64)  : Int32 :=
  k_highestBit_109 (if (XT.ushrL v4 (2 : Int32)) = (0 : Int64) then v3 else v3 + (2 : Int32)) (if (XT.ushrL v4 (2 : Int32)) = (0 : Int64) then v4 else XT.ushrL v4 (2 : Int32))
def k_highestBit_73  (v3 : Int32) (v4 : Int64)  : Int32 :=
  k_highestBit_91 (if (XT.ushrL v4 (4 : Int32)) = (0 : Int64) then v3 else v3 + (4 : Int32)) (if (XT.ushrL v4 (4 : Int32)) = (0 : Int64) then v4 else XT.ushrL v4 (4 : Int32))
def k_highestBit_53  (v3 : Int32) (v4 : Int64)  : Int32 :=
  k_highestBit_73 (if (XT.ushrL v4 (8 : Int32)) = (0 : Int64) then v3 else v3 + (8 : Int32)) (if (XT.ushrL v4 (8 : Int32)) = (0 : Int64) then v4 else XT.ushrL v4 (8 : Int32))
def k_highestBit_33  (v3 : Int32) (v4 : Int64)  : Int32 :=
  k_highestBit_53 (if (XT.ushrL v4 (16 : Int32)) = (0 : Int64) then v3 else v3 + (16 : Int32)) (if (XT.ushrL v4 (16 : Int32)) = (0 : Int64) then v4 else XT.ushrL v4 (16 : Int32))
def k_highestBit  (v1 : Int64)  : Int32 :=
  if v1 = (0 : Int64) then
    (-1 : Int32)
  else
    k_highestBit_33 (if (XT.ushrL v1 (32 : Int32)) = (0 : Int64) then (0 : Int32) else (0 : Int32) + (32 : Int32)) (if (XT.ushrL v1 (32 : Int32)) = (0 : Int64) then v1 else XT.ushrL v1 (32 : Int32))
def k_retreatFreeScanner   (s : S) : S :=
  if (gI s 9) < (gI s 10) then
    if ((gL s 2) &&& (k_rangeMask ((gI s 9) + (1 : Int32)) ((gI s 10) + (1 : Int32)))) = (0 : Int64) then
      sI s 10 (gI s 9)
    else
      sI s 10 (k_highestBit ((gL s 2) &&& (k_rangeMask ((gI s 9) + (1 : Int32)) ((gI s 10) + (1 : Int32)))))
  else
    s
def k_scannersDone   (s : S) : Int32 :=
  if (gI s 9) < (gI s 10) then
    if (gI s 8) = (gI s 7) then
      (1 : Int32)
    else
      (0 : Int32)
  else
    (1 : Int32)
def k_rmapTransfer_47  (v1 : Int32) (v2 : Int32) (s : S) : Option S :=
  (ix (gA s 4) v1).bind fun a57 =>
  (Jvm.AM.st (gA s 4) v2 a57).bind fun a58 =>
  (Jvm.AM.st a58 v1 (-1 : Int32)).bind fun a65 =>
  some (sA (sA s 4 a58) 4 a65)
def k_rmapTransfer_10  : Nat → Int32 → Int32 → Int32 → Int32 → S → Option S
  | 0, _, _, _, _, _ => none
  | n + 1, v1, v2, v3, v4, s =>
    if v4 < (64 : Int32) then
      if v3 < 0 then
        k_rmapTransfer_47 v1 v2 s
      else
        if v3 < (64 : Int32) then
          (Jvm.AM.st (gA s 3) v3 v2).bind fun a33 =>
          (ix (gA s 5) v3).bind fun a39 =>
          k_rmapTransfer_10 n v1 v2 a39 (v4 + (1 : Int32)) (sA s 3 a33)
        else
          k_rmapTransfer_47 v1 v2 s
    else
      k_rmapTransfer_47 v1 v2 s
def k_rmapTransfer  (v1 : Int32) (v2 : Int32) (s : S) : Option S :=
  (ix (gA s 4) v1).bind fun a5 =>
  k_rmapTransfer_10 BIG v1 v2 a5 (0 : Int32) s
def k_migrateFrame  (v1 : Int32) (v2 : Int32) (s : S) : Option S :=
  if (k_frameInRange v1 s) = 0 then
    some s
  else
    if (k_frameInRange v2 s) = 0 then
      some s
    else
      (ix (gA s 0) v1).bind fun a22 =>
      if a22 = (1 : Int32) then
        (ix (gA s 0) v2).bind fun a32 =>
        if a32 = 0 then
          (ix (gA s 1) v1).bind fun a42 =>
          (ix (gA s 2) v1).bind fun a49 =>
          (k_enterState v2 (1 : Int32) s).bind fun r55 =>
          (Jvm.AM.st (gA r55 1) v2 a42).bind fun a64 =>
          (Jvm.AM.st (gA r55 2) v2 a49).bind fun a72 =>
          (k_rmapTransfer v1 v2 (sA (sA r55 1 a64) 2 a72)).bind fun r76 =>
          (k_freeFrame v1 r76).bind fun r81 =>
          some r81
        else
          some s
      else
        some s
def k_compact_34  : Nat → Int32 → S → Option (Int32 × S)
  | 0, _, _ => none
  | n + 1, v2, s =>
    if (65 : Int32) < v2 then
      some (gI s 8, s)
    else
      if (k_scannersDone (k_retreatFreeScanner (k_advanceMigrateScanner s))) = 0 then
        (k_migrateFrame (gI (k_retreatFreeScanner (k_advanceMigrateScanner s)) 9) (gI (k_retreatFreeScanner (k_advanceMigrateScanner s)) 10) (k_retreatFreeScanner (k_advanceMigrateScanner s))).bind fun r67 =>
        k_compact_34 n (v2 + (1 : Int32)) (sI (sI (sI r67 8 ((gI r67 8) + (1 : Int32))) 9 ((gI r67 9) + (1 : Int32))) 10 ((gI r67 10) - (1 : Int32)))
      else
        some (gI (k_retreatFreeScanner (k_advanceMigrateScanner s)) 8, (k_retreatFreeScanner (k_advanceMigrateScanner s)))
def k_compact  (v1 : Int32) (s : S) : Option (Int32 × S) :=
  k_compact_34 BIG (0 : Int32) (sI (sI (sI (sI s 7 (k_clampInt v1 (0 : Int32) (64 : Int32))) 8 (0 : Int32)) 9 (0 : Int32)) 10 ((gI s 0) - (1 : Int32)))
def k_largestFreeOrder_18  : Nat → Int32 → S → Option (Int32 × S)
  | 0, _, _ => none
  | n + 1, v1, s =>
    if v1 < 0 then
      some ((-1 : Int32), s)
    else
      (ix (gB s 7) v1).bind fun a27 =>
      if a27 = (0 : Int64) then
        k_largestFreeOrder_18 n (v1 + (-1 : Int32)) s
      else
        some (v1, s)
def k_largestFreeOrder   (s : S) : Option (Int32 × S) :=
  if (gL s 2) = (0 : Int64) then
    some ((-1 : Int32), s)
  else
    (k_refreshRuns s).bind fun r12 =>
    k_largestFreeOrder_18 BIG (6 : Int32) r12
def h_check_179  (v1 : Int32) (v2 : Int32) (v3 : Int32) (v4 : Int32) (v6 : Int32) (v7 : Int32) (v8 : Int32) (v9 : Int32) (v10 : Int32) (p0 : Int32) (p1 : Int32) (t0 : S) : Option (Int32 × S) :=
  if p1 = p0 then
    if (3 : Int32) < v10 then
      some ((0 : Int32), t0)
    else
      if v6 = v2 then
        if v7 = v3 then
          if v8 = v4 then
            if v9 = v1 then
              some ((1 : Int32), t0)
            else
              some ((0 : Int32), t0)
          else
            some ((0 : Int32), t0)
        else
          some ((0 : Int32), t0)
      else
        some ((0 : Int32), t0)
  else
    some ((0 : Int32), t0)
def h_check_168  (v1 : Int32) (v2 : Int32) (v3 : Int32) (v4 : Int32) (v6 : Int32) (v7 : Int32) (v8 : Int32) (v9 : Int32) (v10 : Int32) (p0 : Int32) (t0 : S) : Option (Int32 × S) :=
  h_check_179 v1 v2 v3 v4 v6 v7 v8 v9 v10 (if v10 = (-1 : Int32) then (1 : Int32) else (0 : Int32)) p0 t0
def h_check_131  (v1 : Int32) (v2 : Int32) (v3 : Int32) (v4 : Int32) (v5 : Int32) (v6 : Int32) (v7 : Int32) (v8 : Int32) (v9 : Int32) (t0 : S) : Option (Int32 × S) :=
  (k_frameState (8 : Int32) t0).bind fun r134 =>
  if r134 = (-1 : Int32) then
    if (k_freeCount t0) = v5 then
      (k_largestFreeOrder t0).bind fun r153 =>
      h_check_168 v1 v2 v3 v4 v6 v7 v8 v9 r153.1 (if v5 = 0 then (1 : Int32) else (0 : Int32)) r153.2
    else
      some ((0 : Int32), t0)
  else
    some ((0 : Int32), t0)
def h_check_100 (k18 : Int32 → Int32 → Int32 → Int32 → Int32 → Int32 → Int32 → Int32 → Int32 → Int32 → S → Option (Int32 × S)) (v1 : Int32) (v2 : Int32) (v3 : Int32) (v4 : Int32) (v5 : Int32) (v6 : Int32) (v7 : Int32) (v8 : Int32) (v9 : Int32) (v10 : Int32) (v11 : Int32) (v12 : Int32) (t0 : S) : Option (Int32 × S) :=
  if v12 < (1 : Int32) then
    some ((0 : Int32), t0)
  else
    k18 v1 v2 v3 v4 v5 (v6 + (1 : Int32)) v7 (if v11 = (2 : Int32) then v8 + (1 : Int32) else v8) v9 (v10 + (1 : Int32)) t0
def h_check_18  : Nat → Int32 → Int32 → Int32 → Int32 → Int32 → Int32 → Int32 → Int32 → Int32 → Int32 → S → Option (Int32 × S)
  | 0, _, _, _, _, _, _, _, _, _, _, _ => none
  | n + 1, v1, v2, v3, v4, v5, v6, v7, v8, v9, v10, t0 =>
    if v10 < (8 : Int32) then
      (k_frameState v10 t0).bind fun r28 =>
      (k_mapCount v10 t0).bind fun r36 =>
      if r28 = 0 then
        if r36 = 0 then
          (k_frameValue v10 t0).bind fun r64 =>
          if r64 = 0 then
            h_check_18 n v1 v2 v3 v4 (v5 + (1 : Int32)) v6 v7 v8 (v9 + r36) (v10 + (1 : Int32)) t0
          else
            some ((0 : Int32), t0)
        else
          some ((0 : Int32), t0)
      else
        if r28 = (3 : Int32) then
          if r36 = 0 then
            h_check_18 n v1 v2 v3 v4 v5 v6 (v7 + (1 : Int32)) v8 (v9 + r36) (v10 + (1 : Int32)) t0
          else
            some ((0 : Int32), t0)
        else
          if r28 = (1 : Int32) then
            h_check_100 (fun v1 v2 v3 v4 v5 v6 v7 v8 v9 v10 t0 => h_check_18 n v1 v2 v3 v4 v5 v6 v7 v8 v9 v10 t0) v1 v2 v3 v4 v5 v6 v7 v8 (v9 + r36) v10 r28 r36 t0
          else
            if r28 = (2 : Int32) then
              h_check_100 (fun v1 v2 v3 v4 v5 v6 v7 v8 v9 v10 t0 => h_check_18 n v1 v2 v3 v4 v5 v6 v7 v8 v9 v10 t0) v1 v2 v3 v4 v5 v6 v7 v8 (v9 + r36) v10 r28 r36 t0
            else
              some ((0 : Int32), t0)
    else
      h_check_131 v1 v2 v3 v4 v5 v6 v7 v8 v9 t0
def h_check  (v1 : Int32) (v2 : Int32) (v3 : Int32) (v4 : Int32) (t0 : S) : Option (Int32 × S) :=
  h_check_18 BIG v1 v2 v3 v4 (0 : Int32) (0 : Int32) (0 : Int32) (0 : Int32) (0 : Int32) (0 : Int32) t0
def law_811 (k24 : Int32 → Int32 → Int32 → Int32 → Int32 → List Int32 → S → Option (Int32 × S)) (v2 : Int32) (v3 : Int32) (v4 : Int32) (v5 : Int32) (v6 : Int32) (q : List Int32) (t0 : S) : Option (Int32 × S) :=
  (h_check v2 v3 v4 v5 t0).bind fun r818 =>
  if r818.1 = 0 then
    some ((0 : Int32), r818.2)
  else
    k24 v2 v3 v4 v5 (v6 + (4 : Int32)) q r818.2
def law_806 (k24 : Int32 → Int32 → Int32 → Int32 → Int32 → List Int32 → S → Option (Int32 × S)) (v2 : Int32) (v3 : Int32) (v4 : Int32) (v5 : Int32) (v6 : Int32) (p0 : Int32) (p1 : Int32) (q : List Int32) (t0 : S) : Option (Int32 × S) :=
  if p0 < p1 then
    some ((0 : Int32), t0)
  else
    law_811 k24 v2 v3 v4 v5 v6 q t0
def law_768 (k24 : Int32 → Int32 → Int32 → Int32 → Int32 → List Int32 → S → Option (Int32 × S)) (v2 : Int32) (v3 : Int32) (v4 : Int32) (v5 : Int32) (v6 : Int32) (q : List Int32) (t0 : S) : Option (Int32 × S) :=
  law_811 k24 v2 v3 v4 v5 v6 q t0
def law_755 (k24 : Int32 → Int32 → Int32 → Int32 → Int32 → List Int32 → S → Option (Int32 × S)) (v2 : Int32) (v3 : Int32) (v4 : Int32) (v5 : Int32) (v6 : Int32) (v16 : Int32) (p0 : Int32) (p1 : Int32) (q : List Int32) (t0 : S) : Option (Int32 × S) :=
  if p1 = p0 then
    law_768 k24 v2 v3 (if v16 = 0 then v4 else v4 + (-1 : Int32)) v5 v6 q t0
  else
    some ((0 : Int32), t0)
def law_724 (k24 : Int32 → Int32 → Int32 → Int32 → Int32 → List Int32 → S → Option (Int32 × S)) (v2 : Int32) (v3 : Int32) (v4 : Int32) (v5 : Int32) (v6 : Int32) (q : List Int32) (t0 : S) : Option (Int32 × S) :=
  law_811 k24 v2 v3 v4 v5 v6 q t0
def law_650 (k24 : Int32 → Int32 → Int32 → Int32 → Int32 → List Int32 → S → Option (Int32 × S)) (v2 : Int32) (v3 : Int32) (v4 : Int32) (v5 : Int32) (v6 : Int32) (q : List Int32) (t0 : S) : Option (Int32 × S) :=
  law_811 k24 v2 v3 v4 v5 v6 q t0
def law_637 (k24 : Int32 → Int32 → Int32 → Int32 → Int32 → List Int32 → S → Option (Int32 × S)) (v2 : Int32) (v3 : Int32) (v4 : Int32) (v5 : Int32) (v6 : Int32) (v16 : Int32) (p0 : Int32) (p1 : Int32) (q : List Int32) (t0 : S) : Option (Int32 × S) :=
  if p1 = p0 then
    law_650 k24 v2 v3 v4 (if v16 = 0 then v5 else v5 + (-1 : Int32)) v6 q t0
  else
    some ((0 : Int32), t0)
def law_607 (k24 : Int32 → Int32 → Int32 → Int32 → Int32 → List Int32 → S → Option (Int32 × S)) (v2 : Int32) (v3 : Int32) (v4 : Int32) (v5 : Int32) (v6 : Int32) (q : List Int32) (t0 : S) : Option (Int32 × S) :=
  law_811 k24 v2 v3 v4 v5 v6 q t0
def law_594 (k24 : Int32 → Int32 → Int32 → Int32 → Int32 → List Int32 → S → Option (Int32 × S)) (v2 : Int32) (v3 : Int32) (v4 : Int32) (v5 : Int32) (v6 : Int32) (v16 : Int32) (p0 : Int32) (p1 : Int32) (q : List Int32) (t0 : S) : Option (Int32 × S) :=
  if p1 = p0 then
    law_607 k24 v2 v3 v4 (if v16 = 0 then v5 else v5 + (1 : Int32)) v6 q t0
  else
    some ((0 : Int32), t0)
def law_564 (k24 : Int32 → Int32 → Int32 → Int32 → Int32 → List Int32 → S → Option (Int32 × S)) (v2 : Int32) (v3 : Int32) (v4 : Int32) (v5 : Int32) (v6 : Int32) (q : List Int32) (t0 : S) : Option (Int32 × S) :=
  law_811 k24 v2 v3 v4 v5 v6 q t0
def law_528 (k24 : Int32 → Int32 → Int32 → Int32 → Int32 → List Int32 → S → Option (Int32 × S)) (v2 : Int32) (v3 : Int32) (v4 : Int32) (v5 : Int32) (v6 : Int32) (v10 : Int32) (v11 : Int32) (v12 : Int32) (v14 : Int32) (v16 : Int32) (p0 : Int32) (p1 : Int32) (q : List Int32) (t0 : S) : Option (Int32 × S) :=
  if p1 = p0 then
    if v16 = 0 then
      law_564 k24 v2 v3 v4 v5 v6 q t0
    else
      (k_read v11 v12 t0).bind fun r543 =>
      if r543 = v10 then
        (k_frameValue v14 t0).bind fun r554 =>
        if r554 = v10 then
          law_564 k24 v2 v3 v4 v5 v6 q t0
        else
          some ((0 : Int32), t0)
      else
        some ((0 : Int32), t0)
  else
    some ((0 : Int32), t0)
def law_495 (k24 : Int32 → Int32 → Int32 → Int32 → Int32 → List Int32 → S → Option (Int32 × S)) (v2 : Int32) (v3 : Int32) (v4 : Int32) (v5 : Int32) (v6 : Int32) (q : List Int32) (t0 : S) : Option (Int32 × S) :=
  law_811 k24 v2 v3 v4 v5 v6 q t0
def law_415 (k24 : Int32 → Int32 → Int32 → Int32 → Int32 → List Int32 → S → Option (Int32 × S)) (v2 : Int32) (v3 : Int32) (v4 : Int32) (v5 : Int32) (v6 : Int32) (q : List Int32) (t0 : S) : Option (Int32 × S) :=
  law_811 k24 v2 v3 v4 v5 v6 q t0
def law_380 (k24 : Int32 → Int32 → Int32 → Int32 → Int32 → List Int32 → S → Option (Int32 × S)) (v2 : Int32) (v3 : Int32) (v4 : Int32) (v5 : Int32) (v6 : Int32) (v11 : Int32) (v12 : Int32) (v16 : Int32) (v17 : Int32) (v18 : Int32) (p0 : Int32) (p1 : Int32) (q : List Int32) (t0 : S) : Option (Int32 × S) :=
  if p1 = p0 then
    if v18 = 0 then
      law_415 k24 v2 v3 v4 v5 v6 q t0
    else
      if v17 = v16 then
        (k_frameOf v11 v12 t0).bind fun r402 =>
        if r402 = v17 then
          law_415 k24 (v2 + (1 : Int32)) v3 v4 v5 v6 q t0
        else
          some ((0 : Int32), t0)
      else
        some ((0 : Int32), t0)
  else
    some ((0 : Int32), t0)
def law_366 (k24 : Int32 → Int32 → Int32 → Int32 → Int32 → List Int32 → S → Option (Int32 × S)) (v2 : Int32) (v3 : Int32) (v4 : Int32) (v5 : Int32) (v6 : Int32) (v11 : Int32) (v12 : Int32) (v16 : Int32) (v17 : Int32) (p0 : Int32) (q : List Int32) (t0 : S) : Option (Int32 × S) :=
  law_380 k24 v2 v3 v4 v5 v6 v11 v12 v16 v17 p0 (if v17 < 0 then (0 : Int32) else (1 : Int32)) p0 q t0
def law_293 (k24 : Int32 → Int32 → Int32 → Int32 → Int32 → List Int32 → S → Option (Int32 × S)) (v2 : Int32) (v3 : Int32) (v4 : Int32) (v5 : Int32) (v6 : Int32) (q : List Int32) (t0 : S) : Option (Int32 × S) :=
  law_811 k24 v2 v3 v4 v5 v6 q t0
def law_287 (k24 : Int32 → Int32 → Int32 → Int32 → Int32 → List Int32 → S → Option (Int32 × S)) (v2 : Int32) (v3 : Int32) (v4 : Int32) (v5 : Int32) (v6 : Int32) (q : List Int32) (t0 : S) : Option (Int32 × S) :=
  law_293 k24 (v2 + (1 : Int32)) (v3 + (1 : Int32)) v4 v5 v6 q t0
def law_263 (k24 : Int32 → Int32 → Int32 → Int32 → Int32 → List Int32 → S → Option (Int32 × S)) : Nat → Int32 → Int32 → Int32 → Int32 → Int32 → Int32 → Int32 → List Int32 → S → Option (Int32 × S)
  | 0, _, _, _, _, _, _, _, _, _ => none
  | n + 1, v2, v3, v4, v5, v6, v17, v18, q, t0 =>
    if v18 < v17 then
      (k_frameState v18 t0).bind fun r273 =>
      if r273 = 0 then
        some ((0 : Int32), t0)
      else
        law_263 k24 n v2 v3 v4 v5 v6 v17 (v18 + (1 : Int32)) q t0
    else
      law_287 k24 v2 v3 v4 v5 v6 q t0
def law_150 (k24 : Int32 → Int32 → Int32 → Int32 → Int32 → List Int32 → S → Option (Int32 × S)) (v2 : Int32) (v3 : Int32) (v4 : Int32) (v5 : Int32) (v6 : Int32) (v17 : Int32) (q : List Int32) (t0 : S) : Option (Int32 × S) :=
  if v17 = (-1 : Int32) then
    law_293 k24 v2 v3 v4 v5 v6 q t0
  else
    some ((0 : Int32), t0)
def law_24  : Nat → Int32 → Int32 → Int32 → Int32 → Int32 → List Int32 → S → Option (Int32 × S)
  | 0, _, _, _, _, _, _, _ => none
  | n + 1, v2, v3, v4, v5, v6, q, t0 =>
    if (v6 + (3 : Int32)) < q.length.toInt32 then
      (ix q v6).bind fun a36 =>
      (ix q (v6 + (1 : Int32))).bind fun a50 =>
      (ix q (v6 + (2 : Int32))).bind fun a58 =>
      (ix q (v6 + (3 : Int32))).bind fun a66 =>
      (k_frameOf ((a50 &&& (7 : Int32)) % (5 : Int32)) ((a58 &&& (7 : Int32)) % (5 : Int32)) t0).bind fun r102 =>
      (k_frameState ((a50 &&& (15 : Int32)) % (9 : Int32)) t0).bind fun r110 =>
      if ((a36 &&& (15 : Int32)) % (9 : Int32)) = 0 then
        (k_mapNew ((a50 &&& (7 : Int32)) % (5 : Int32)) ((a58 &&& (7 : Int32)) % (5 : Int32)) a66 t0).bind fun r133 =>
        if (3 : Int32) < ((a50 &&& (7 : Int32)) % (5 : Int32)) then
          law_150 (fun v2 v3 v4 v5 v6 q t0 => law_24 n v2 v3 v4 v5 v6 q t0) v2 v3 v4 v5 v6 r133.1 q r133.2
        else
          if (3 : Int32) < ((a58 &&& (7 : Int32)) % (5 : Int32)) then
            law_150 (fun v2 v3 v4 v5 v6 q t0 => law_24 n v2 v3 v4 v5 v6 q t0) v2 v3 v4 v5 v6 r133.1 q r133.2
          else
            if r102 = (-1 : Int32) then
              if (k_freeCount t0) = 0 then
                if r133.1 = (-4 : Int32) then
                  law_293 (fun v2 v3 v4 v5 v6 q t0 => law_24 n v2 v3 v4 v5 v6 q t0) v2 v3 v4 v5 v6 q r133.2
                else
                  some ((0 : Int32), r133.2)
              else
                if r133.1 < 0 then
                  some ((0 : Int32), r133.2)
                else
                  if (7 : Int32) < r133.1 then
                    some ((0 : Int32), r133.2)
                  else
                    (k_frameOf ((a50 &&& (7 : Int32)) % (5 : Int32)) ((a58 &&& (7 : Int32)) % (5 : Int32)) r133.2).bind fun r204 =>
                    if r204 = r133.1 then
                      (k_read ((a50 &&& (7 : Int32)) % (5 : Int32)) ((a58 &&& (7 : Int32)) % (5 : Int32)) r133.2).bind fun r217 =>
                      if r217 = a66 then
                        (k_mapCount r133.1 r133.2).bind fun r230 =>
                        if r230 = (1 : Int32) then
                          (k_frameState r133.1 r133.2).bind fun r240 =>
                          if r240 = (1 : Int32) then
                            (k_frameValue r133.1 r133.2).bind fun r250 =>
                            if r250 = a66 then
                              law_263 (fun v2 v3 v4 v5 v6 q t0 => law_24 n v2 v3 v4 v5 v6 q t0) BIG v2 v3 v4 v5 v6 r133.1 (0 : Int32) q r133.2
                            else
                              some ((0 : Int32), r133.2)
                          else
                            some ((0 : Int32), r133.2)
                        else
                          some ((0 : Int32), r133.2)
                      else
                        some ((0 : Int32), r133.2)
                    else
                      some ((0 : Int32), r133.2)
            else
              if r133.1 = (-2 : Int32) then
                law_293 (fun v2 v3 v4 v5 v6 q t0 => law_24 n v2 v3 v4 v5 v6 q t0) v2 v3 v4 v5 v6 q r133.2
              else
                some ((0 : Int32), r133.2)
      else
        if ((a36 &&& (15 : Int32)) % (9 : Int32)) = (1 : Int32) then
          (k_frameOf (a66 &&& (3 : Int32)) ((a66 >>> ((2 : Int32) &&& 31)) &&& (3 : Int32)) t0).bind fun r313 =>
          (k_share ((a50 &&& (7 : Int32)) % (5 : Int32)) ((a58 &&& (7 : Int32)) % (5 : Int32)) (a66 &&& (3 : Int32)) ((a66 >>> ((2 : Int32) &&& 31)) &&& (3 : Int32)) t0).bind fun r333 =>
          law_366 (fun v2 v3 v4 v5 v6 q t0 => law_24 n v2 v3 v4 v5 v6 q t0) v2 v3 v4 v5 v6 ((a50 &&& (7 : Int32)) % (5 : Int32)) ((a58 &&& (7 : Int32)) % (5 : Int32)) r313 r333.1 (if (3 : Int32) < ((a50 &&& (7 : Int32)) % (5 : Int32)) then (0 : Int32) else if (3 : Int32) < ((a58 &&& (7 : Int32)) % (5 : Int32)) then (0 : Int32) else if r102 = (-1 : Int32) then if r313 < 0 then (0 : Int32) else (1 : Int32) else (0 : Int32)) q r333.2
        else
          if ((a36 &&& (15 : Int32)) % (9 : Int32)) = (2 : Int32) then
            (k_mapCount r102 t0).bind fun r427 =>
            (k_frameState r102 t0).bind fun r435 =>
            (k_unmap ((a50 &&& (7 : Int32)) % (5 : Int32)) ((a58 &&& (7 : Int32)) % (5 : Int32)) t0).bind fun r445 =>
            if r102 < 0 then
              if r445.1 < 0 then
                law_495 (fun v2 v3 v4 v5 v6 q t0 => law_24 n v2 v3 v4 v5 v6 q t0) v2 v3 v4 v5 v6 q r445.2
              else
                some ((0 : Int32), r445.2)
            else
              if r445.1 = r102 then
                law_495 (fun v2 v3 v4 v5 v6 q t0 => law_24 n v2 v3 v4 v5 v6 q t0) (v2 + (-1 : Int32)) (if r427 = (1 : Int32) then v3 + (-1 : Int32) else v3) v4 (if r427 = (1 : Int32) then if r435 = (2 : Int32) then v5 + (-1 : Int32) else v5 else v5) v6 q r445.2
              else
                some ((0 : Int32), r445.2)
          else
            if ((a36 &&& (15 : Int32)) % (9 : Int32)) = (3 : Int32) then
              (k_write ((a50 &&& (7 : Int32)) % (5 : Int32)) ((a58 &&& (7 : Int32)) % (5 : Int32)) a66 t0).bind fun r511 =>
              law_528 (fun v2 v3 v4 v5 v6 q t0 => law_24 n v2 v3 v4 v5 v6 q t0) v2 v3 v4 v5 v6 a66 ((a50 &&& (7 : Int32)) % (5 : Int32)) ((a58 &&& (7 : Int32)) % (5 : Int32)) r102 r511.1 (if r102 < 0 then (0 : Int32) else (1 : Int32)) r511.1 q r511.2
            else
              if ((a36 &&& (15 : Int32)) % (9 : Int32)) = (4 : Int32) then
                (k_pin ((a50 &&& (15 : Int32)) % (9 : Int32)) t0).bind fun r576 =>
                law_594 (fun v2 v3 v4 v5 v6 q t0 => law_24 n v2 v3 v4 v5 v6 q t0) v2 v3 v4 v5 v6 r576.1 (if r110 = (1 : Int32) then (1 : Int32) else (0 : Int32)) r576.1 q r576.2
              else
                if ((a36 &&& (15 : Int32)) % (9 : Int32)) = (5 : Int32) then
                  (k_unpin ((a50 &&& (15 : Int32)) % (9 : Int32)) t0).bind fun r619 =>
                  law_637 (fun v2 v3 v4 v5 v6 q t0 => law_24 n v2 v3 v4 v5 v6 q t0) v2 v3 v4 v5 v6 r619.1 (if r110 = (2 : Int32) then (1 : Int32) else (0 : Int32)) r619.1 q r619.2
                else
                  if ((a36 &&& (15 : Int32)) % (9 : Int32)) = (6 : Int32) then
                    (k_allocBlock (a50 &&& (3 : Int32)) t0).bind fun r669 =>
                    if r669.1 < 0 then
                      if r669.1 = (-4 : Int32) then
                        law_724 (fun v2 v3 v4 v5 v6 q t0 => law_24 n v2 v3 v4 v5 v6 q t0) v2 v3 v4 v5 v6 q r669.2
                      else
                        some ((0 : Int32), r669.2)
                    else
                      if ((1 : Int32) <<< ((a50 &&& (3 : Int32)) &&& 31)) = 0 then none else
                      if (r669.1 % ((1 : Int32) <<< ((a50 &&& (3 : Int32)) &&& 31))) = 0 then
                        if (8 : Int32) < (r669.1 + ((1 : Int32) <<< ((a50 &&& (3 : Int32)) &&& 31))) then
                          some ((0 : Int32), r669.2)
                        else
                          law_724 (fun v2 v3 v4 v5 v6 q t0 => law_24 n v2 v3 v4 v5 v6 q t0) v2 v3 (v4 + ((1 : Int32) <<< ((a50 &&& (3 : Int32)) &&& 31))) v5 v6 q r669.2
                      else
                        some ((0 : Int32), r669.2)
                  else
                    if ((a36 &&& (15 : Int32)) % (9 : Int32)) = (7 : Int32) then
                      (k_release ((a50 &&& (15 : Int32)) % (9 : Int32)) t0).bind fun r737 =>
                      law_755 (fun v2 v3 v4 v5 v6 q t0 => law_24 n v2 v3 v4 v5 v6 q t0) v2 v3 v4 v5 v6 r737.1 (if r110 = (3 : Int32) then (1 : Int32) else (0 : Int32)) r737.1 q r737.2
                    else
                      (k_compact ((a50 &&& (7 : Int32)) - (1 : Int32)) t0).bind fun r783 =>
                      if r783.1 < 0 then
                        some ((0 : Int32), r783.2)
                      else
                        law_806 (fun v2 v3 v4 v5 v6 q t0 => law_24 n v2 v3 v4 v5 v6 q t0) v2 v3 v4 v5 v6 (if ((a50 &&& (7 : Int32)) - (1 : Int32)) < 0 then (0 : Int32) else (a50 &&& (7 : Int32)) - (1 : Int32)) r783.1 q r783.2
    else
      some ((1 : Int32), t0)
def law   (q : List Int32) : Option (Int32 × S) :=
  (k_init (8 : Int32) (4 : Int32)).bind fun r7 =>
  law_24 BIG (0 : Int32) (0 : Int32) (0 : Int32) (0 : Int32) (0 : Int32) q r7
set_option maxRecDepth 65536 in
set_option maxHeartbeats 4000000 in
theorem k_clampInt_ok  {s : S} : ∀ (v1 : Int32) (v2 : Int32) (v3 : Int32)   (o : Int32), k_clampInt v1 v2 v3 = o → Go PP m0 0 [.val (.ref 1), .val (.int v1), .val (.int v2), .val (.int v3)] [] (none, [(8, s)]) (some (.int o), (none, [(8, s)])) := by
  intro v1 v2 v3 o hf
  unfold k_clampInt at hf
  refine go_iloadN (pc := 0) d0_0 rfl (go_iloadN (pc := 1) d0_1 rfl ?_)
  by_cases h1 : v1 < v2
  · replace hf := (if_pos h1).symm.trans hf
    refine go_icN (pc := 2) d0_2 (XT.ii_ge_f h1) ?_
    refine go_iloadN (pc := 5) d0_5 rfl ?_
    cases hf
    exact go_iret (pc := 6) rfl d0_6
  · replace hf := (if_neg h1).symm.trans hf
    refine go_icY (pc := 2) (pc' := 7) d0_2 (XT.ii_ge_t h1) j_2_5 ?_
    refine go_iloadN (pc := 7) d0_7 rfl (go_iloadN (pc := 8) d0_8 rfl ?_)
    by_cases h2 : v3 < v1
    · replace hf := (if_pos h2).symm.trans hf
      refine go_icN (pc := 9) d0_9 (XT.ii_le_f h2) ?_
      refine go_iloadN (pc := 12) d0_12 rfl ?_
      cases hf
      exact go_iret (pc := 13) rfl d0_13
    · replace hf := (if_neg h2).symm.trans hf
      refine go_icY (pc := 9) (pc' := 14) d0_9 (XT.ii_le_t h2) j_9_5 ?_
      refine go_iloadN (pc := 14) d0_14 rfl ?_
      cases hf
      exact go_iret (pc := 15) rfl d0_15
theorem c_k_clampInt (v1 : Int32) (v2 : Int32) (v3 : Int32) (s : S) : Call PP m0 [.ref 1, .int v1, .int v2, .int v3] (none, [(8, s)]) (some (.int (k_clampInt v1 v2 v3)), (none, [(8, s)])) := call_of_go pl_0 rfl (fun h => nomatch h) (k_clampInt_ok v1 v2 v3   _ rfl)
set_option maxRecDepth 65536 in
set_option maxHeartbeats 4000000 in
theorem k_lowMask_ok  {s : S} : ∀ (v1 : Int32)   (o : Int64), k_lowMask v1 = o → Go PP m1 0 [.val (.ref 1), .val (.int v1)] [] (none, [(8, s)]) (some (.long o), (none, [(8, s)])) := by
  intro v1 o hf
  unfold k_lowMask at hf
  refine go_iloadN (pc := 0) d1_0 rfl ?_
  by_cases h1 : 0 < v1
  · replace hf := (if_pos h1).symm.trans hf
    refine go_ifY (pc := 1) (pc' := 6) d1_1 (XT.i0_gt_t h1) j_1_5 ?_
    refine go_iloadN (pc := 6) d1_6 rfl (go_bipush (pc := 7) d1_7 cb_64 ?_)
    by_cases h2 : v1 < (64 : Int32)
    · replace hf := (if_pos h2).symm.trans hf
      refine go_icY (pc := 9) (pc' := 16) d1_9 (XT.ii_lt_t h2) j_9_7 ?_
      refine go_lconst (pc := 16) d1_16 cl_1 (go_iloadN (pc := 17) d1_17 rfl (go_lshl (pc := 18) d1_18 (go_lconst (pc := 19) d1_19 cl_1 (go_lsub (pc := 20) d1_20 ?_))))
      cases hf
      exact go_lret (pc := 21) rfl d1_21
    · replace hf := (if_neg h2).symm.trans hf
      refine go_icN (pc := 9) d1_9 (XT.ii_lt_f h2) ?_
      refine go_ldc2 (pc := 12) (u := (-1 : Int64)) d1_12 (List.mem_of_getElem? (i := 159) rfl) ?_
      cases hf
      exact go_lret (pc := 15) rfl d1_15
  · replace hf := (if_neg h1).symm.trans hf
    refine go_ifN (pc := 1) d1_1 (XT.i0_gt_f h1) ?_
    refine go_lconst (pc := 4) d1_4 cl_0 ?_
    cases hf
    exact go_lret (pc := 5) rfl d1_5
theorem c_k_lowMask (v1 : Int32) (s : S) : Call PP m1 [.ref 1, .int v1] (none, [(8, s)]) (some (.long (k_lowMask v1)), (none, [(8, s)])) := call_of_go pl_0 rfl (fun h => nomatch h) (k_lowMask_ok v1   _ rfl)
set_option maxRecDepth 65536 in
set_option maxHeartbeats 4000000 in
theorem k_resetAll_63_ok  : ∀  (s : S) (x1 : Slot) (hx1 : k1 x1) (o : S), k_resetAll_63 s = some o → Go PP m2 63 [.val (.ref 1), x1] [] (none, [(8, s)]) (none, (none, [(8, o)])) := by
  intro s x1 hx1 o hf
  unfold k_resetAll_63 at hf
  refine go_aloadN (pc := 63) d2_63 rfl (go_aloadN (pc := 64) d2_64 rfl (go_aloadN (pc := 65) d2_65 rfl (go_getI (pc := 66) fs_40 hm_2 d2_66 ?_)))
  refine go_priv (pc := 69) (i := 0) (as := [.int (gI s 0)]) (rest := [.ref 1]) (w' := (none, [(8, s)])) lk_0_129 pd_1 rfl oid_0 rfl rfl rfl rfl rfl rfl ⟨rfl, rfl, rfl, rfl, rfl⟩ d2_69 (c_k_lowMask (gI s 0) s) ?_
  refine go_putJ (pc := 72) fs_54 hm_2 (wr_2 _) hn_2 d2_72 (go_aloadN (pc := 75) d2_75 rfl (go_lconst (pc := 76) d2_76 cl_0 (go_putJ (pc := 77) fs_132 hm_2 (wr_3 _) hn_2 d2_77 (go_aloadN (pc := 80) d2_80 rfl (go_lconst (pc := 81) d2_81 cl_0 (go_putJ (pc := 82) fs_135 hm_2 (wr_4 _) hn_2 d2_82 (go_aloadN (pc := 85) d2_85 rfl ?_)))))))
  refine go_lconst (pc := 86) d2_86 cl_0 (go_putJ (pc := 87) fs_138 hm_2 (wr_5 _) hn_2 d2_87 (go_aloadN (pc := 90) d2_90 rfl (go_iconst (pc := 91) d2_91 ci_1 (go_putZ (pc := 92) fs_141 hm_2 (wr_6 _) hn_2 (by decide) d2_92 ?_))))
  cases hf
  exact go_ret (pc := 95) rfl d2_95
set_option maxRecDepth 65536 in
set_option maxHeartbeats 4000000 in
theorem k_resetAll_2_ok  : ∀ (n : Nat) (v1 : Int32) (s : S)  (o : S), k_resetAll_2 n v1 s = some o → Go PP m2 2 [.val (.ref 1), .val (.int v1)] [] (none, [(8, s)]) (none, (none, [(8, o)])) := by
  intro n
  induction n with
  | zero => intro v1 s o hf; exact nomatch hf
  | succ n ih =>
    intro v1 s o hf
    unfold k_resetAll_2 at hf
    refine go_iloadN (pc := 2) d2_2 rfl (go_bipush (pc := 3) d2_3 cb_64 ?_)
    by_cases h1 : v1 < (64 : Int32)
    · replace hf := (if_pos h1).symm.trans hf
      refine go_icN (pc := 5) d2_5 (XT.ii_ge_f h1) ?_
      refine go_aloadN (pc := 8) d2_8 rfl (go_getA (pc := 9) fa_7 hm_2 d2_9 rfl (go_iloadN (pc := 12) d2_12 rfl (go_iconst (pc := 13) d2_13 ci_0 ?_)))
      obtain ⟨a14, e2, hf⟩ := Option.bind_eq_some_iff.mp hf
      refine go_bastore (pc := 14) (q := 0) ar_0 (by decide) rfl hn_2 rfl e2 d2_14 ?_
      refine go_aloadN (pc := 15) d2_15 rfl (go_getA (pc := 16) fa_13 hm_2 d2_16 rfl (go_iloadN (pc := 19) d2_19 rfl (go_iconst (pc := 20) d2_20 ci_0 ?_)))
      obtain ⟨a21, e3, hf⟩ := Option.bind_eq_some_iff.mp hf
      refine go_iastore (pc := 21) (q := 1) ar_1 rfl hn_2 e3 d2_21 ?_
      refine go_aloadN (pc := 22) d2_22 rfl (go_getA (pc := 23) fa_17 hm_2 d2_23 rfl (go_iloadN (pc := 26) d2_26 rfl (go_iconst (pc := 27) d2_27 ci_0 ?_)))
      obtain ⟨a28, e4, hf⟩ := Option.bind_eq_some_iff.mp hf
      refine go_iastore (pc := 28) (q := 2) ar_2 rfl hn_2 e4 d2_28 ?_
      refine go_aloadN (pc := 29) d2_29 rfl (go_getA (pc := 30) fa_20 hm_2 d2_30 rfl (go_iloadN (pc := 33) d2_33 rfl (go_iconst (pc := 34) d2_34 ci_m1 ?_)))
      obtain ⟨a35, e5, hf⟩ := Option.bind_eq_some_iff.mp hf
      refine go_iastore (pc := 35) (q := 3) ar_3 rfl hn_2 e5 d2_35 ?_
      refine go_aloadN (pc := 36) d2_36 rfl (go_getA (pc := 37) fa_23 hm_2 d2_37 rfl (go_iloadN (pc := 40) d2_40 rfl (go_iconst (pc := 41) d2_41 ci_m1 ?_)))
      obtain ⟨a42, e6, hf⟩ := Option.bind_eq_some_iff.mp hf
      refine go_iastore (pc := 42) (q := 4) ar_4 rfl hn_2 e6 d2_42 ?_
      refine go_aloadN (pc := 43) d2_43 rfl (go_getA (pc := 44) fa_26 hm_2 d2_44 rfl (go_iloadN (pc := 47) d2_47 rfl (go_iconst (pc := 48) d2_48 ci_m1 ?_)))
      obtain ⟨a49, e7, hf⟩ := Option.bind_eq_some_iff.mp hf
      refine go_iastore (pc := 49) (q := 5) ar_5 rfl hn_2 e7 d2_49 ?_
      refine go_aloadN (pc := 50) d2_50 rfl (go_getA (pc := 51) fa_29 hm_2 d2_51 rfl (go_iloadN (pc := 54) d2_54 rfl (go_iconst (pc := 55) d2_55 ci_m1 ?_)))
      obtain ⟨a56, e8, hf⟩ := Option.bind_eq_some_iff.mp hf
      refine go_iastore (pc := 56) (q := 6) ar_6 rfl hn_2 e8 d2_56 ?_
      refine go_iinc (pc := 57) (L' := [.val (.ref 1), .val (.int (v1 + (1 : Int32)))]) d2_57 rfl ci_1 rfl (go_goto (pc := 60) (pc' := 2) d2_60 j_60_m58 ?_)
      exact ih (v1 + (1 : Int32)) (sA (sA (sA (sA (sA (sA (sA s 0 a14) 1 a21) 2 a28) 3 a35) 4 a42) 5 a49) 6 a56) _ hf
    · replace hf := (if_neg h1).symm.trans hf
      refine go_icY (pc := 5) (pc' := 63) d2_5 (XT.ii_ge_t h1) j_5_58 ?_
      exact k_resetAll_63_ok s (.val (.int v1)) (Or.inr ⟨_, rfl, rfl⟩) _ hf
set_option maxRecDepth 65536 in
set_option maxHeartbeats 4000000 in
theorem k_resetAll_ok  : ∀  (s : S)  (o : S), k_resetAll s = some o → Go PP m2 0 [.val (.ref 1), .unset] [] (none, [(8, s)]) (none, (none, [(8, o)])) := by
  intro s o hf
  unfold k_resetAll at hf
  refine go_iconst (pc := 0) d2_0 ci_0 (go_istoreN (pc := 1) (L' := [.val (.ref 1), .val (.int (0 : Int32))]) d2_1 rfl ?_)
  exact k_resetAll_2_ok BIG (0 : Int32) s _ hf
theorem c_k_resetAll (s : S) (o : S) (hf : k_resetAll s = some o) : Call PP m2 [.ref 1] (none, [(8, s)]) (none, (none, [(8, o)])) := call_of_go pl_0 rfl (fun _ => rfl) (k_resetAll_ok s   _ hf)
set_option maxRecDepth 65536 in
set_option maxHeartbeats 4000000 in
theorem k_init_ok  : ∀ (v1 : Int32) (v2 : Int32)   (o : S), k_init v1 v2 = some o → Go PP m3 0 [.val (.ref 1), .val (.int v1), .val (.int v2)] [] (none, [(0, s0)]) (none, (none, [(8, o)])) := by
  intro v1 v2 o hf
  unfold k_init at hf
  refine go_aloadN (pc := 0) d3_0 rfl ?_
  refine go_objinit (pc := 1) (rest := []) (a := 0) (List.mem_of_getElem? (i := 6) rfl) (List.mem_of_getElem? (i := 7) rfl) (List.mem_of_getElem? (i := 8) rfl) rfl rfl d3_1 ?_
  refine go_aloadN (pc := 4) d3_4 rfl (go_bipush (pc := 5) d3_5 cb_64 ?_)
  refine go_newI (pc := 7) (ty := .byte) rfl (by decide) ar_0 (List.mem_of_getElem? (i := 9) rfl) (List.mem_of_getElem? (i := 10) rfl) hm_3 (Or.inr ⟨List.mem_of_getElem? (i := 11) rfl, rfl⟩) rfl hn_3 (by decide) rfl rfl rfl rfl d3_7 d3_9 ?_
  refine go_aloadN (pc := 12) d3_12 rfl (go_bipush (pc := 13) d3_13 cb_64 ?_)
  refine go_newI (pc := 15) (ty := .int) rfl (by decide) ar_1 (List.mem_of_getElem? (i := 12) rfl) (List.mem_of_getElem? (i := 13) rfl) hm_3 (Or.inr ⟨List.mem_of_getElem? (i := 14) rfl, rfl⟩) rfl hn_3 (by decide) rfl rfl rfl rfl d3_15 d3_17 ?_
  refine go_aloadN (pc := 20) d3_20 rfl (go_bipush (pc := 21) d3_21 cb_64 ?_)
  refine go_newI (pc := 23) (ty := .int) rfl (by decide) ar_2 (List.mem_of_getElem? (i := 12) rfl) (List.mem_of_getElem? (i := 15) rfl) hm_3 (Or.inr ⟨List.mem_of_getElem? (i := 16) rfl, rfl⟩) rfl hn_3 (by decide) rfl rfl rfl rfl d3_23 d3_25 ?_
  refine go_aloadN (pc := 28) d3_28 rfl (go_bipush (pc := 29) d3_29 cb_64 ?_)
  refine go_newI (pc := 31) (ty := .int) rfl (by decide) ar_3 (List.mem_of_getElem? (i := 12) rfl) (List.mem_of_getElem? (i := 17) rfl) hm_3 (Or.inr ⟨List.mem_of_getElem? (i := 18) rfl, rfl⟩) rfl hn_3 (by decide) rfl rfl rfl rfl d3_31 d3_33 ?_
  refine go_aloadN (pc := 36) d3_36 rfl (go_bipush (pc := 37) d3_37 cb_64 ?_)
  refine go_newI (pc := 39) (ty := .int) rfl (by decide) ar_4 (List.mem_of_getElem? (i := 12) rfl) (List.mem_of_getElem? (i := 19) rfl) hm_3 (Or.inr ⟨List.mem_of_getElem? (i := 20) rfl, rfl⟩) rfl hn_3 (by decide) rfl rfl rfl rfl d3_39 d3_41 ?_
  refine go_aloadN (pc := 44) d3_44 rfl (go_bipush (pc := 45) d3_45 cb_64 ?_)
  refine go_newI (pc := 47) (ty := .int) rfl (by decide) ar_5 (List.mem_of_getElem? (i := 12) rfl) (List.mem_of_getElem? (i := 21) rfl) hm_3 (Or.inr ⟨List.mem_of_getElem? (i := 22) rfl, rfl⟩) rfl hn_3 (by decide) rfl rfl rfl rfl d3_47 d3_49 ?_
  refine go_aloadN (pc := 52) d3_52 rfl (go_bipush (pc := 53) d3_53 cb_64 ?_)
  refine go_newI (pc := 55) (ty := .int) rfl (by decide) ar_6 (List.mem_of_getElem? (i := 12) rfl) (List.mem_of_getElem? (i := 23) rfl) hm_3 (Or.inr ⟨List.mem_of_getElem? (i := 24) rfl, rfl⟩) rfl hn_3 (by decide) rfl rfl rfl rfl d3_55 d3_57 ?_
  refine go_aloadN (pc := 60) d3_60 rfl (go_bipush (pc := 61) d3_61 cb_7 ?_)
  refine go_newJ (pc := 63) ar_7 (List.mem_of_getElem? (i := 25) rfl) (List.mem_of_getElem? (i := 26) rfl) hm_3 (Or.inr ⟨List.mem_of_getElem? (i := 27) rfl, rfl⟩) rfl hn_3 (by decide) rfl rfl rfl rfl d3_63 d3_65 ?_
  refine go_aloadN (pc := 68) d3_68 rfl (go_aloadN (pc := 69) d3_69 rfl (go_iloadN (pc := 70) d3_70 rfl (go_bipush (pc := 71) d3_71 cb_8 (go_bipush (pc := 73) d3_73 cb_64 ?_))))
  refine go_priv (pc := 75) (i := 0) (as := [.int v1, .int (8 : Int32), .int (64 : Int32)]) (rest := [.ref 1]) (w' := (none, [(8, sB (sA (sA (sA (sA (sA (sA (sA s0 0 (rep 64 0)) 1 (rep 64 0)) 2 (rep 64 0)) 3 (rep 64 0)) 4 (rep 64 0)) 5 (rep 64 0)) 6 (rep 64 0)) 7 (rep 7 0))])) lk_0_36 pd_0 rfl oid_0 rfl rfl rfl rfl rfl rfl ⟨rfl, rfl, rfl, rfl, rfl⟩ d3_75 (c_k_clampInt v1 (8 : Int32) (64 : Int32) (sB (sA (sA (sA (sA (sA (sA (sA s0 0 (rep 64 0)) 1 (rep 64 0)) 2 (rep 64 0)) 3 (rep 64 0)) 4 (rep 64 0)) 5 (rep 64 0)) 6 (rep 64 0)) 7 (rep 7 0))) ?_
  refine go_putI (pc := 78) fs_40 hm_3 (wr_0 _) hn_3 d3_78 (go_aloadN (pc := 81) d3_81 rfl (go_aloadN (pc := 82) d3_82 rfl (go_iloadN (pc := 83) d3_83 rfl (go_iconst (pc := 84) d3_84 ci_4 (go_bipush (pc := 85) d3_85 cb_16 ?_)))))
  refine go_priv (pc := 87) (i := 0) (as := [.int v2, .int (4 : Int32), .int (16 : Int32)]) (rest := [.ref 1]) (w' := (none, [(8, sI (sB (sA (sA (sA (sA (sA (sA (sA s0 0 (rep 64 0)) 1 (rep 64 0)) 2 (rep 64 0)) 3 (rep 64 0)) 4 (rep 64 0)) 5 (rep 64 0)) 6 (rep 64 0)) 7 (rep 7 0)) 0 (k_clampInt v1 (8 : Int32) (64 : Int32)))])) lk_0_36 pd_0 rfl oid_0 rfl rfl rfl rfl rfl rfl ⟨rfl, rfl, rfl, rfl, rfl⟩ d3_87 (c_k_clampInt v2 (4 : Int32) (16 : Int32) (sI (sB (sA (sA (sA (sA (sA (sA (sA s0 0 (rep 64 0)) 1 (rep 64 0)) 2 (rep 64 0)) 3 (rep 64 0)) 4 (rep 64 0)) 5 (rep 64 0)) 6 (rep 64 0)) 7 (rep 7 0)) 0 (k_clampInt v1 (8 : Int32) (64 : Int32)))) ?_
  refine go_putI (pc := 90) fs_44 hm_3 (wr_1 _) hn_3 d3_90 (go_aloadN (pc := 93) d3_93 rfl ?_)
  obtain ⟨r94, e9, hf⟩ := Option.bind_eq_some_iff.mp hf
  refine go_priv (pc := 94) (i := 0) (as := []) (rest := []) (w' := (none, [(8, r94)])) lk_0_47 pd_2 rfl oid_0 rfl rfl rfl rfl rfl rfl ⟨rfl, rfl, rfl, rfl, rfl⟩ d3_94 (c_k_resetAll (sI (sI (sB (sA (sA (sA (sA (sA (sA (sA s0 0 (rep 64 0)) 1 (rep 64 0)) 2 (rep 64 0)) 3 (rep 64 0)) 4 (rep 64 0)) 5 (rep 64 0)) 6 (rep 64 0)) 7 (rep 7 0)) 0 (k_clampInt v1 (8 : Int32) (64 : Int32))) 1 (k_clampInt v2 (4 : Int32) (16 : Int32))) _ e9) ?_
  cases hf
  exact go_ret (pc := 97) rfl d3_97
theorem c_k_init (v1 : Int32) (v2 : Int32) (o : S) (hf : k_init v1 v2 = some o) : Call PP m3 [.ref 1, .int v1, .int v2] (none, [(0, s0)]) (none, (none, [(8, o)])) := call_of_go pl_0 rfl (fun _ => rfl) (k_init_ok v1 v2   _ hf)
set_option maxRecDepth 65536 in
set_option maxHeartbeats 4000000 in
theorem k_pageInRange_ok  : ∀ (v1 : Int32) (v2 : Int32) (s : S)  (o : Int32), k_pageInRange v1 v2 s = o → Go PP m4 0 [.val (.ref 1), .val (.int v1), .val (.int v2)] [] (none, [(8, s)]) (some (.int o), (none, [(8, s)])) := by
  intro v1 v2 s o hf
  unfold k_pageInRange at hf
  refine go_iloadN (pc := 0) d4_0 rfl ?_
  by_cases h1 : v1 < 0
  · replace hf := (if_pos h1).symm.trans hf
    refine go_ifY (pc := 1) (pc' := 9) d4_1 (XT.i0_lt_t h1) j_1_8 ?_
    refine go_iconst (pc := 9) d4_9 ci_0 ?_
    cases hf
    exact go_zret (pc := 10) rfl d4_10 (show (0 : Int32) = nar .boolean (0 : Int32) by decide)
  · replace hf := (if_neg h1).symm.trans hf
    refine go_ifN (pc := 1) d4_1 (XT.i0_lt_f h1) ?_
    refine go_iloadN (pc := 4) d4_4 rfl (go_iconst (pc := 5) d4_5 ci_4 ?_)
    by_cases h2 : v1 < (4 : Int32)
    · replace hf := (if_pos h2).symm.trans hf
      refine go_icY (pc := 6) (pc' := 11) d4_6 (XT.ii_lt_t h2) j_6_5 ?_
      refine go_iloadN (pc := 11) d4_11 rfl ?_
      by_cases h3 : v2 < 0
      · replace hf := (if_pos h3).symm.trans hf
        refine go_ifY (pc := 12) (pc' := 27) d4_12 (XT.i0_lt_t h3) j_12_15 ?_
        refine go_iconst (pc := 27) d4_27 ci_0 ?_
        cases hf
        exact go_zret (pc := 28) rfl d4_28 (show (0 : Int32) = nar .boolean (0 : Int32) by decide)
      · replace hf := (if_neg h3).symm.trans hf
        refine go_ifN (pc := 12) d4_12 (XT.i0_lt_f h3) ?_
        refine go_iloadN (pc := 15) d4_15 rfl (go_aloadN (pc := 16) d4_16 rfl (go_getI (pc := 17) fs_44 hm_4 d4_17 ?_))
        by_cases h4 : v2 < (gI s 1)
        · replace hf := (if_pos h4).symm.trans hf
          refine go_icN (pc := 20) d4_20 (XT.ii_ge_f h4) ?_
          refine go_iconst (pc := 23) d4_23 ci_1 (go_goto (pc := 24) (pc' := 28) d4_24 j_24_4 ?_)
          cases hf
          exact go_zret (pc := 28) rfl d4_28 (show (1 : Int32) = nar .boolean (1 : Int32) by decide)
        · replace hf := (if_neg h4).symm.trans hf
          refine go_icY (pc := 20) (pc' := 27) d4_20 (XT.ii_ge_t h4) j_20_7 ?_
          refine go_iconst (pc := 27) d4_27 ci_0 ?_
          cases hf
          exact go_zret (pc := 28) rfl d4_28 (show (0 : Int32) = nar .boolean (0 : Int32) by decide)
    · replace hf := (if_neg h2).symm.trans hf
      refine go_icN (pc := 6) d4_6 (XT.ii_lt_f h2) ?_
      refine go_iconst (pc := 9) d4_9 ci_0 ?_
      cases hf
      exact go_zret (pc := 10) rfl d4_10 (show (0 : Int32) = nar .boolean (0 : Int32) by decide)
theorem c_k_pageInRange (v1 : Int32) (v2 : Int32) (s : S) : Call PP m4 [.ref 1, .int v1, .int v2] (none, [(8, s)]) (some (.int (k_pageInRange v1 v2 s)), (none, [(8, s)])) := call_of_go pl_0 rfl (fun h => nomatch h) (k_pageInRange_ok v1 v2 s   _ rfl)
set_option maxRecDepth 65536 in
set_option maxHeartbeats 4000000 in
theorem k_slotOf_ok  {s : S} : ∀ (v1 : Int32) (v2 : Int32)   (o : Int32), k_slotOf v1 v2 = o → Go PP m5 0 [.val (.ref 1), .val (.int v1), .val (.int v2)] [] (none, [(8, s)]) (some (.int o), (none, [(8, s)])) := by
  intro v1 v2 o hf
  unfold k_slotOf at hf
  refine go_iloadN (pc := 0) d5_0 rfl (go_bipush (pc := 1) d5_1 cb_16 (go_imul (pc := 3) d5_3 (go_iloadN (pc := 4) d5_4 rfl (go_iadd (pc := 5) d5_5 ?_))))
  cases hf
  exact go_iret (pc := 6) rfl d5_6
theorem c_k_slotOf (v1 : Int32) (v2 : Int32) (s : S) : Call PP m5 [.ref 1, .int v1, .int v2] (none, [(8, s)]) (some (.int (k_slotOf v1 v2)), (none, [(8, s)])) := call_of_go pl_0 rfl (fun h => nomatch h) (k_slotOf_ok v1 v2   _ rfl)
set_option maxRecDepth 65536 in
set_option maxHeartbeats 4000000 in
theorem k_frameInRange_ok  : ∀ (v1 : Int32) (s : S)  (o : Int32), k_frameInRange v1 s = o → Go PP m6 0 [.val (.ref 1), .val (.int v1)] [] (none, [(8, s)]) (some (.int o), (none, [(8, s)])) := by
  intro v1 s o hf
  unfold k_frameInRange at hf
  refine go_iloadN (pc := 0) d6_0 rfl ?_
  by_cases h1 : v1 < 0
  · replace hf := (if_pos h1).symm.trans hf
    refine go_ifY (pc := 1) (pc' := 16) d6_1 (XT.i0_lt_t h1) j_1_15 ?_
    refine go_iconst (pc := 16) d6_16 ci_0 ?_
    cases hf
    exact go_zret (pc := 17) rfl d6_17 (show (0 : Int32) = nar .boolean (0 : Int32) by decide)
  · replace hf := (if_neg h1).symm.trans hf
    refine go_ifN (pc := 1) d6_1 (XT.i0_lt_f h1) ?_
    refine go_iloadN (pc := 4) d6_4 rfl (go_aloadN (pc := 5) d6_5 rfl (go_getI (pc := 6) fs_40 hm_6 d6_6 ?_))
    by_cases h2 : v1 < (gI s 0)
    · replace hf := (if_pos h2).symm.trans hf
      refine go_icN (pc := 9) d6_9 (XT.ii_ge_f h2) ?_
      refine go_iconst (pc := 12) d6_12 ci_1 (go_goto (pc := 13) (pc' := 17) d6_13 j_13_4 ?_)
      cases hf
      exact go_zret (pc := 17) rfl d6_17 (show (1 : Int32) = nar .boolean (1 : Int32) by decide)
    · replace hf := (if_neg h2).symm.trans hf
      refine go_icY (pc := 9) (pc' := 16) d6_9 (XT.ii_ge_t h2) j_9_7 ?_
      refine go_iconst (pc := 16) d6_16 ci_0 ?_
      cases hf
      exact go_zret (pc := 17) rfl d6_17 (show (0 : Int32) = nar .boolean (0 : Int32) by decide)
theorem c_k_frameInRange (v1 : Int32) (s : S) : Call PP m6 [.ref 1, .int v1] (none, [(8, s)]) (some (.int (k_frameInRange v1 s)), (none, [(8, s)])) := call_of_go pl_0 rfl (fun h => nomatch h) (k_frameInRange_ok v1 s   _ rfl)
set_option maxRecDepth 65536 in
set_option maxHeartbeats 4000000 in
theorem k_mappedFrame_ok  : ∀ (v1 : Int32) (v2 : Int32) (s : S)  (o : Int32), k_mappedFrame v1 v2 s = some o → Go PP m7 0 [.val (.ref 1), .val (.int v1), .val (.int v2), .unset, .unset] [] (none, [(8, s)]) (some (.int o), (none, [(8, s)])) := by
  intro v1 v2 s o hf
  unfold k_mappedFrame at hf
  refine go_aloadN (pc := 0) d7_0 rfl (go_iloadN (pc := 1) d7_1 rfl (go_iloadN (pc := 2) d7_2 rfl ?_))
  refine go_priv (pc := 3) (i := 0) (as := [.int v1, .int v2]) (rest := []) (w' := (none, [(8, s)])) lk_0_76 pd_4 rfl oid_0 rfl rfl rfl rfl rfl rfl ⟨rfl, rfl, rfl, rfl, rfl⟩ d7_3 (c_k_pageInRange v1 v2 s) ?_
  by_cases h1 : (k_pageInRange v1 v2 s) = 0
  · replace hf := (if_pos h1).symm.trans hf
    refine go_ifN (pc := 6) d7_6 (XT.i0_ne_f h1) ?_
    refine go_iconst (pc := 9) d7_9 ci_m1 ?_
    cases hf
    exact go_iret (pc := 10) rfl d7_10
  · replace hf := (if_neg h1).symm.trans hf
    refine go_ifY (pc := 6) (pc' := 11) d7_6 (XT.i0_ne_t h1) j_6_5 ?_
    refine go_aloadN (pc := 11) d7_11 rfl (go_iloadN (pc := 12) d7_12 rfl (go_iloadN (pc := 13) d7_13 rfl ?_))
    refine go_priv (pc := 14) (i := 0) (as := [.int v1, .int v2]) (rest := []) (w' := (none, [(8, s)])) lk_0_66 pd_5 rfl oid_0 rfl rfl rfl rfl rfl rfl ⟨rfl, rfl, rfl, rfl, rfl⟩ d7_14 (c_k_slotOf v1 v2 s) ?_
    refine go_istoreN (pc := 17) (L' := [.val (.ref 1), .val (.int v1), .val (.int v2), .val (.int (k_slotOf v1 v2)), .unset]) d7_17 rfl (go_aloadN (pc := 18) d7_18 rfl (go_getA (pc := 19) fa_20 hm_7 d7_19 rfl (go_iloadN (pc := 22) d7_22 rfl ?_)))
    obtain ⟨a23, e2, hf⟩ := Option.bind_eq_some_iff.mp hf
    refine go_iaload (pc := 23) (q := 3) ar_3 rfl e2 d7_23 ?_
    refine go_istore (pc := 24) (L' := [.val (.ref 1), .val (.int v1), .val (.int v2), .val (.int (k_slotOf v1 v2)), .val (.int a23)]) d7_24 rfl (go_aloadN (pc := 26) d7_26 rfl (go_iload (pc := 27) d7_27 rfl ?_))
    refine go_priv (pc := 29) (i := 0) (as := [.int a23]) (rest := []) (w' := (none, [(8, s)])) lk_0_62 pd_6 rfl oid_0 rfl rfl rfl rfl rfl rfl ⟨rfl, rfl, rfl, rfl, rfl⟩ d7_29 (c_k_frameInRange a23 s) ?_
    by_cases h3 : (k_frameInRange a23 s) = 0
    · replace hf := (if_pos h3).symm.trans hf
      refine go_ifN (pc := 32) d7_32 (XT.i0_ne_f h3) ?_
      refine go_iconst (pc := 35) d7_35 ci_m1 ?_
      cases hf
      exact go_iret (pc := 36) rfl d7_36
    · replace hf := (if_neg h3).symm.trans hf
      refine go_ifY (pc := 32) (pc' := 37) d7_32 (XT.i0_ne_t h3) j_32_5 ?_
      refine go_iload (pc := 37) d7_37 rfl ?_
      cases hf
      exact go_iret (pc := 39) rfl d7_39
theorem c_k_mappedFrame (v1 : Int32) (v2 : Int32) (s : S) (o : Int32) (hf : k_mappedFrame v1 v2 s = some o) : Call PP m7 [.ref 1, .int v1, .int v2] (none, [(8, s)]) (some (.int o), (none, [(8, s)])) := call_of_go pl_0 rfl (fun h => nomatch h) (k_mappedFrame_ok v1 v2 s   _ hf)
set_option maxRecDepth 65536 in
set_option maxHeartbeats 4000000 in
theorem k_frameOf_ok  : ∀ (v1 : Int32) (v2 : Int32) (s : S)  (o : Int32), k_frameOf v1 v2 s = some o → Go PP m8 0 [.val (.ref 1), .val (.int v1), .val (.int v2), .unset] [] (none, [(8, s)]) (some (.int o), (none, [(8, s)])) := by
  intro v1 v2 s o hf
  unfold k_frameOf at hf
  refine go_aloadN (pc := 0) d8_0 rfl (go_iloadN (pc := 1) d8_1 rfl (go_iloadN (pc := 2) d8_2 rfl ?_))
  obtain ⟨r3, e1, hf⟩ := Option.bind_eq_some_iff.mp hf
  refine go_priv (pc := 3) (i := 0) (as := [.int v1, .int v2]) (rest := []) (w' := (none, [(8, s)])) lk_0_88 pd_7 rfl oid_0 rfl rfl rfl rfl rfl rfl ⟨rfl, rfl, rfl, rfl, rfl⟩ d8_3 (c_k_mappedFrame v1 v2 s _ e1) ?_
  refine go_istoreN (pc := 6) (L' := [.val (.ref 1), .val (.int v1), .val (.int v2), .val (.int r3)]) d8_6 rfl (go_iloadN (pc := 7) d8_7 rfl ?_)
  by_cases h2 : r3 < 0
  · replace hf := (if_pos h2).symm.trans hf
    refine go_ifN (pc := 8) d8_8 (XT.i0_ge_f h2) ?_
    refine go_iconst (pc := 11) d8_11 ci_m1 ?_
    cases hf
    exact go_iret (pc := 12) rfl d8_12
  · replace hf := (if_neg h2).symm.trans hf
    refine go_ifY (pc := 8) (pc' := 13) d8_8 (XT.i0_ge_t h2) j_8_5 ?_
    refine go_iloadN (pc := 13) d8_13 rfl ?_
    cases hf
    exact go_iret (pc := 14) rfl d8_14
theorem c_k_frameOf (v1 : Int32) (v2 : Int32) (s : S) (o : Int32) (hf : k_frameOf v1 v2 s = some o) : Call PP m8 [.ref 1, .int v1, .int v2] (none, [(8, s)]) (some (.int o), (none, [(8, s)])) := call_of_go pl_0 rfl (fun h => nomatch h) (k_frameOf_ok v1 v2 s   _ hf)
set_option maxRecDepth 65536 in
set_option maxHeartbeats 4000000 in
theorem k_frameState_ok  : ∀ (v1 : Int32) (s : S)  (o : Int32), k_frameState v1 s = some o → Go PP m9 0 [.val (.ref 1), .val (.int v1)] [] (none, [(8, s)]) (some (.int o), (none, [(8, s)])) := by
  intro v1 s o hf
  unfold k_frameState at hf
  refine go_aloadN (pc := 0) d9_0 rfl (go_iloadN (pc := 1) d9_1 rfl ?_)
  refine go_priv (pc := 2) (i := 0) (as := [.int v1]) (rest := []) (w' := (none, [(8, s)])) lk_0_62 pd_6 rfl oid_0 rfl rfl rfl rfl rfl rfl ⟨rfl, rfl, rfl, rfl, rfl⟩ d9_2 (c_k_frameInRange v1 s) ?_
  by_cases h1 : (k_frameInRange v1 s) = 0
  · replace hf := (if_pos h1).symm.trans hf
    refine go_ifN (pc := 5) d9_5 (XT.i0_ne_f h1) ?_
    refine go_iconst (pc := 8) d9_8 ci_m1 ?_
    cases hf
    exact go_iret (pc := 9) rfl d9_9
  · replace hf := (if_neg h1).symm.trans hf
    refine go_ifY (pc := 5) (pc' := 10) d9_5 (XT.i0_ne_t h1) j_5_5 ?_
    refine go_aloadN (pc := 10) d9_10 rfl (go_getA (pc := 11) fa_7 hm_9 d9_11 rfl (go_iloadN (pc := 14) d9_14 rfl ?_))
    obtain ⟨a15, e2, hf⟩ := Option.bind_eq_some_iff.mp hf
    refine go_baload (pc := 15) (q := 0) ar_0 (by decide) rfl e2 d9_15 ?_
    cases hf
    exact go_iret (pc := 16) rfl d9_16
theorem c_k_frameState (v1 : Int32) (s : S) (o : Int32) (hf : k_frameState v1 s = some o) : Call PP m9 [.ref 1, .int v1] (none, [(8, s)]) (some (.int o), (none, [(8, s)])) := call_of_go pl_0 rfl (fun h => nomatch h) (k_frameState_ok v1 s   _ hf)
set_option maxRecDepth 65536 in
set_option maxHeartbeats 4000000 in
theorem k_bitCount_34_ok  {s : S} : ∀ (v3 : Int64)  (x1 : Slot) (x2 : Slot) (hx1 : k2 x1 x2) (o : Int32), k_bitCount_34 v3 = o → Go PP m10 34 [.val (.ref 1), x1, x2, .val (.long v3), .second] [] (none, [(8, s)]) (some (.int o), (none, [(8, s)])) := by
  intro v3 x1 x2 hx1 o hf
  unfold k_bitCount_34 at hf
  refine go_lloadN (pc := 34) d10_34 rfl (go_ldc2 (pc := 35) (u := (72340172838076673 : Int64)) d10_35 (List.mem_of_getElem? (i := 111) rfl) (go_lmul (pc := 38) d10_38 (go_bipush (pc := 39) d10_39 cb_56 (go_lushr (pc := 41) d10_41 (go_l2i (pc := 42) d10_42 ?_)))))
  cases hf
  exact go_iret (pc := 43) rfl d10_43
set_option maxRecDepth 65536 in
set_option maxHeartbeats 4000000 in
theorem k_bitCount_ok  {s : S} : ∀ (v1 : Int64)   (o : Int32), k_bitCount v1 = o → Go PP m10 0 [.val (.ref 1), .val (.long v1), .second, .unset, .unset] [] (none, [(8, s)]) (some (.int o), (none, [(8, s)])) := by
  intro v1 o hf
  unfold k_bitCount at hf
  refine go_lloadN (pc := 0) d10_0 rfl (go_lloadN (pc := 1) d10_1 rfl (go_iconst (pc := 2) d10_2 ci_1 (go_lushr (pc := 3) d10_3 (go_ldc2 (pc := 4) (u := (6148914691236517205 : Int64)) d10_4 (List.mem_of_getElem? (i := 108) rfl) (go_land (pc := 7) d10_7 (go_lsub (pc := 8) d10_8 (go_lstoreN (pc := 9) (L' := [.val (.ref 1), .val (.long v1), .second, .val (.long (v1 - ((XT.ushrL v1 (1 : Int32)) &&& (6148914691236517205 : Int64)))), .second]) d10_9 rfl ?_)))))))
  refine go_lloadN (pc := 10) d10_10 rfl (go_ldc2 (pc := 11) (u := (3689348814741910323 : Int64)) d10_11 (List.mem_of_getElem? (i := 109) rfl) (go_land (pc := 14) d10_14 (go_lloadN (pc := 15) d10_15 rfl (go_iconst (pc := 16) d10_16 ci_2 (go_lushr (pc := 17) d10_17 (go_ldc2 (pc := 18) (u := (3689348814741910323 : Int64)) d10_18 (List.mem_of_getElem? (i := 109) rfl) (go_land (pc := 21) d10_21 ?_)))))))
  refine go_ladd (pc := 22) d10_22 (go_lstoreN (pc := 23) (L' := [.val (.ref 1), .val (.long v1), .second, .val (.long (((v1 - ((XT.ushrL v1 (1 : Int32)) &&& (6148914691236517205 : Int64))) &&& (3689348814741910323 : Int64)) + ((XT.ushrL (v1 - ((XT.ushrL v1 (1 : Int32)) &&& (6148914691236517205 : Int64))) (2 : Int32)) &&& (3689348814741910323 : Int64)))), .second]) d10_23 rfl (go_lloadN (pc := 24) d10_24 rfl (go_lloadN (pc := 25) d10_25 rfl (go_iconst (pc := 26) d10_26 ci_4 (go_lushr (pc := 27) d10_27 (go_ladd (pc := 28) d10_28 (go_ldc2 (pc := 29) (u := (1085102592571150095 : Int64)) d10_29 (List.mem_of_getElem? (i := 110) rfl) ?_)))))))
  refine go_land (pc := 32) d10_32 (go_lstoreN (pc := 33) (L' := [.val (.ref 1), .val (.long v1), .second, .val (.long (((((v1 - ((XT.ushrL v1 (1 : Int32)) &&& (6148914691236517205 : Int64))) &&& (3689348814741910323 : Int64)) + ((XT.ushrL (v1 - ((XT.ushrL v1 (1 : Int32)) &&& (6148914691236517205 : Int64))) (2 : Int32)) &&& (3689348814741910323 : Int64))) + (XT.ushrL (((v1 - ((XT.ushrL v1 (1 : Int32)) &&& (6148914691236517205 : Int64))) &&& (3689348814741910323 : Int64)) + ((XT.ushrL (v1 - ((XT.ushrL v1 (1 : Int32)) &&& (6148914691236517205 : Int64))) (2 : Int32)) &&& (3689348814741910323 : Int64))) (4 : Int32))) &&& (1085102592571150095 : Int64))), .second]) d10_33 rfl ?_)
  exact k_bitCount_34_ok (((((v1 - ((XT.ushrL v1 (1 : Int32)) &&& (6148914691236517205 : Int64))) &&& (3689348814741910323 : Int64)) + ((XT.ushrL (v1 - ((XT.ushrL v1 (1 : Int32)) &&& (6148914691236517205 : Int64))) (2 : Int32)) &&& (3689348814741910323 : Int64))) + (XT.ushrL (((v1 - ((XT.ushrL v1 (1 : Int32)) &&& (6148914691236517205 : Int64))) &&& (3689348814741910323 : Int64)) + ((XT.ushrL (v1 - ((XT.ushrL v1 (1 : Int32)) &&& (6148914691236517205 : Int64))) (2 : Int32)) &&& (3689348814741910323 : Int64))) (4 : Int32))) &&& (1085102592571150095 : Int64)) (.val (.long v1)) .second (Or.inr ⟨_, rfl, rfl⟩) _ hf
theorem c_k_bitCount (v1 : Int64) (s : S) : Call PP m10 [.ref 1, .long v1] (none, [(8, s)]) (some (.int (k_bitCount v1)), (none, [(8, s)])) := call_of_go pl_0 rfl (fun h => nomatch h) (k_bitCount_ok v1   _ rfl)
set_option maxRecDepth 65536 in
set_option maxHeartbeats 4000000 in
theorem k_freeCount_ok  : ∀  (s : S)  (o : Int32), k_freeCount s = o → Go PP m11 0 [.val (.ref 1)] [] (none, [(8, s)]) (some (.int o), (none, [(8, s)])) := by
  intro s o hf
  unfold k_freeCount at hf
  refine go_aloadN (pc := 0) d11_0 rfl (go_aloadN (pc := 1) d11_1 rfl (go_getJ (pc := 2) fs_54 hm_11 d11_2 ?_))
  refine go_priv (pc := 5) (i := 0) (as := [.long (gL s 2)]) (rest := []) (w' := (none, [(8, s)])) lk_0_123 pd_10 rfl oid_0 rfl rfl rfl rfl rfl rfl ⟨rfl, rfl, rfl, rfl, rfl⟩ d11_5 (c_k_bitCount (gL s 2) s) ?_
  cases hf
  exact go_iret (pc := 8) rfl d11_8
theorem c_k_freeCount (s : S) : Call PP m11 [.ref 1] (none, [(8, s)]) (some (.int (k_freeCount s)), (none, [(8, s)])) := call_of_go pl_0 rfl (fun h => nomatch h) (k_freeCount_ok s   _ rfl)
set_option maxRecDepth 65536 in
set_option maxHeartbeats 4000000 in
theorem k_checkTarget_ok  : ∀ (v1 : Int32) (v2 : Int32) (s : S)  (o : Int32), k_checkTarget v1 v2 s = some o → Go PP m12 0 [.val (.ref 1), .val (.int v1), .val (.int v2), .unset] [] (none, [(8, s)]) (some (.int o), (none, [(8, s)])) := by
  intro v1 v2 s o hf
  unfold k_checkTarget at hf
  refine go_aloadN (pc := 0) d12_0 rfl (go_iloadN (pc := 1) d12_1 rfl (go_iloadN (pc := 2) d12_2 rfl ?_))
  refine go_priv (pc := 3) (i := 0) (as := [.int v1, .int v2]) (rest := []) (w' := (none, [(8, s)])) lk_0_76 pd_4 rfl oid_0 rfl rfl rfl rfl rfl rfl ⟨rfl, rfl, rfl, rfl, rfl⟩ d12_3 (c_k_pageInRange v1 v2 s) ?_
  by_cases h1 : (k_pageInRange v1 v2 s) = 0
  · replace hf := (if_pos h1).symm.trans hf
    refine go_ifN (pc := 6) d12_6 (XT.i0_ne_f h1) ?_
    refine go_iconst (pc := 9) d12_9 ci_m1 ?_
    cases hf
    exact go_iret (pc := 10) rfl d12_10
  · replace hf := (if_neg h1).symm.trans hf
    refine go_ifY (pc := 6) (pc' := 11) d12_6 (XT.i0_ne_t h1) j_6_5 ?_
    refine go_aloadN (pc := 11) d12_11 rfl (go_iloadN (pc := 12) d12_12 rfl (go_iloadN (pc := 13) d12_13 rfl ?_))
    refine go_priv (pc := 14) (i := 0) (as := [.int v1, .int v2]) (rest := []) (w' := (none, [(8, s)])) lk_0_66 pd_5 rfl oid_0 rfl rfl rfl rfl rfl rfl ⟨rfl, rfl, rfl, rfl, rfl⟩ d12_14 (c_k_slotOf v1 v2 s) ?_
    refine go_istoreN (pc := 17) (L' := [.val (.ref 1), .val (.int v1), .val (.int v2), .val (.int (k_slotOf v1 v2))]) d12_17 rfl (go_aloadN (pc := 18) d12_18 rfl (go_getA (pc := 19) fa_20 hm_12 d12_19 rfl (go_iloadN (pc := 22) d12_22 rfl ?_)))
    obtain ⟨a23, e2, hf⟩ := Option.bind_eq_some_iff.mp hf
    refine go_iaload (pc := 23) (q := 3) ar_3 rfl e2 d12_23 ?_
    by_cases h3 : a23 < 0
    · replace hf := (if_pos h3).symm.trans hf
      refine go_ifY (pc := 24) (pc' := 30) d12_24 (XT.i0_lt_t h3) j_24_6 ?_
      refine go_iconst (pc := 30) d12_30 ci_0 ?_
      cases hf
      exact go_iret (pc := 31) rfl d12_31
    · replace hf := (if_neg h3).symm.trans hf
      refine go_ifN (pc := 24) d12_24 (XT.i0_lt_f h3) ?_
      refine go_bipush (pc := 27) d12_27 cb_m2 ?_
      cases hf
      exact go_iret (pc := 29) rfl d12_29
theorem c_k_checkTarget (v1 : Int32) (v2 : Int32) (s : S) (o : Int32) (hf : k_checkTarget v1 v2 s = some o) : Call PP m12 [.ref 1, .int v1, .int v2] (none, [(8, s)]) (some (.int o), (none, [(8, s)])) := call_of_go pl_0 rfl (fun h => nomatch h) (k_checkTarget_ok v1 v2 s   _ hf)
set_option maxRecDepth 65536 in
set_option maxHeartbeats 4000000 in
theorem k_lowestBit_116_ok  {s : S} : ∀ (v3 : Int32) (v4 : Int64)  (x1 : Slot) (x2 : Slot) (hx1 : k2 x1 x2) (o : Int32), k_lowestBit_116 v3 v4 = o → Go PP m13 116 [.val (.ref 1), x1, x2, .val (.int v3), .val (.long v4), .second] [] (none, [(8, s)]) (some (.int o), (none, [(8, s)])) := by
  intro v3 v4 x1 x2 hx1 o hf
  unfold k_lowestBit_116 at hf
  refine go_lload (pc := 116) d13_116 rfl (go_lconst (pc := 118) d13_118 cl_1 (go_land (pc := 119) d13_119 (go_lconst (pc := 120) d13_120 cl_0 (go_lcmp (pc := 121) d13_121 ?_))))
  by_cases h2 : (v4 &&& (1 : Int64)) = (0 : Int64)
  · replace hf := (if_pos h2).symm.trans hf
    refine go_ifN (pc := 122) d13_122 (XT.ll_ne_f h2) ?_
    refine go_iinc (pc := 125) (L' := [.val (.ref 1), x1, x2, .val (.int (v3 + (1 : Int32))), .val (.long v4), .second]) d13_125 rfl ci_1 rfl (go_iloadN (pc := 128) d13_128 rfl ?_)
    cases hf
    exact go_iret (pc := 129) rfl d13_129
  · replace hf := (if_neg h2).symm.trans hf
    refine go_ifY (pc := 122) (pc' := 128) d13_122 (XT.ll_ne_t h2) j_122_6 ?_
    refine go_iloadN (pc := 128) d13_128 rfl ?_
    cases hf
    exact go_iret (pc := 129) rfl d13_129
set_option maxRecDepth 65536 in
set_option maxHeartbeats 4000000 in
theorem k_lowestBit_96_ok  {s : S} : ∀ (v3 : Int32) (v4 : Int64)  (x1 : Slot) (x2 : Slot) (hx1 : k2 x1 x2) (o : Int32), k_lowestBit_96 v3 v4 = o → Go PP m13 96 [.val (.ref 1), x1, x2, .val (.int v3), .val (.long v4), .second] [] (none, [(8, s)]) (some (.int o), (none, [(8, s)])) := by
  intro v3 v4 x1 x2 hx1 o hf
  unfold k_lowestBit_96 at hf
  refine go_lload (pc := 96) d13_96 rfl (go_ldc2 (pc := 98) (u := (3 : Int64)) d13_98 (List.mem_of_getElem? (i := 150) rfl) (go_land (pc := 101) d13_101 (go_lconst (pc := 102) d13_102 cl_0 (go_lcmp (pc := 103) d13_103 ?_))))
  by_cases h1 : (v4 &&& (3 : Int64)) = (0 : Int64)
  · refine go_ifN (pc := 104) d13_104 (XT.ll_ne_f h1) ?_
    refine go_iinc (pc := 107) (L' := [.val (.ref 1), x1, x2, .val (.int (v3 + (2 : Int32))), .val (.long v4), .second]) d13_107 rfl ci_2 rfl (go_lload (pc := 110) d13_110 rfl (go_iconst (pc := 112) d13_112 ci_2 (go_lushr (pc := 113) d13_113 (go_lstore (pc := 114) (L' := [.val (.ref 1), x1, x2, .val (.int (v3 + (2 : Int32))), .val (.long (XT.ushrL v4 (2 : Int32))), .second]) d13_114 rfl ?_))))
    exact k_lowestBit_116_ok (v3 + (2 : Int32)) (XT.ushrL v4 (2 : Int32)) x1 x2 hx1 _ (by simpa only [if_pos h1] using hf)
  · refine go_ifY (pc := 104) (pc' := 116) d13_104 (XT.ll_ne_t h1) j_104_12 ?_
    exact k_lowestBit_116_ok v3 v4 x1 x2 hx1 _ (by simpa only [if_neg h1] using hf)
set_option maxRecDepth 65536 in
set_option maxHeartbeats 4000000 in
theorem k_lowestBit_76_ok  {s : S} : ∀ (v3 : Int32) (v4 : Int64)  (x1 : Slot) (x2 : Slot) (hx1 : k2 x1 x2) (o : Int32), k_lowestBit_76 v3 v4 = o → Go PP m13 76 [.val (.ref 1), x1, x2, .val (.int v3), .val (.long v4), .second] [] (none, [(8, s)]) (some (.int o), (none, [(8, s)])) := by
  intro v3 v4 x1 x2 hx1 o hf
  unfold k_lowestBit_76 at hf
  refine go_lload (pc := 76) d13_76 rfl (go_ldc2 (pc := 78) (u := (15 : Int64)) d13_78 (List.mem_of_getElem? (i := 149) rfl) (go_land (pc := 81) d13_81 (go_lconst (pc := 82) d13_82 cl_0 (go_lcmp (pc := 83) d13_83 ?_))))
  by_cases h1 : (v4 &&& (15 : Int64)) = (0 : Int64)
  · refine go_ifN (pc := 84) d13_84 (XT.ll_ne_f h1) ?_
    refine go_iinc (pc := 87) (L' := [.val (.ref 1), x1, x2, .val (.int (v3 + (4 : Int32))), .val (.long v4), .second]) d13_87 rfl ci_4 rfl (go_lload (pc := 90) d13_90 rfl (go_iconst (pc := 92) d13_92 ci_4 (go_lushr (pc := 93) d13_93 (go_lstore (pc := 94) (L' := [.val (.ref 1), x1, x2, .val (.int (v3 + (4 : Int32))), .val (.long (XT.ushrL v4 (4 : Int32))), .second]) d13_94 rfl ?_))))
    exact k_lowestBit_96_ok (v3 + (4 : Int32)) (XT.ushrL v4 (4 : Int32)) x1 x2 hx1 _ (by simpa only [if_pos h1] using hf)
  · refine go_ifY (pc := 84) (pc' := 96) d13_84 (XT.ll_ne_t h1) j_84_12 ?_
    exact k_lowestBit_96_ok v3 v4 x1 x2 hx1 _ (by simpa only [if_neg h1] using hf)
set_option maxRecDepth 65536 in
set_option maxHeartbeats 4000000 in
theorem k_lowestBit_55_ok  {s : S} : ∀ (v3 : Int32) (v4 : Int64)  (x1 : Slot) (x2 : Slot) (hx1 : k2 x1 x2) (o : Int32), k_lowestBit_55 v3 v4 = o → Go PP m13 55 [.val (.ref 1), x1, x2, .val (.int v3), .val (.long v4), .second] [] (none, [(8, s)]) (some (.int o), (none, [(8, s)])) := by
  intro v3 v4 x1 x2 hx1 o hf
  unfold k_lowestBit_55 at hf
  refine go_lload (pc := 55) d13_55 rfl (go_ldc2 (pc := 57) (u := (255 : Int64)) d13_57 (List.mem_of_getElem? (i := 148) rfl) (go_land (pc := 60) d13_60 (go_lconst (pc := 61) d13_61 cl_0 (go_lcmp (pc := 62) d13_62 ?_))))
  by_cases h1 : (v4 &&& (255 : Int64)) = (0 : Int64)
  · refine go_ifN (pc := 63) d13_63 (XT.ll_ne_f h1) ?_
    refine go_iinc (pc := 66) (L' := [.val (.ref 1), x1, x2, .val (.int (v3 + (8 : Int32))), .val (.long v4), .second]) d13_66 rfl ci_8 rfl (go_lload (pc := 69) d13_69 rfl (go_bipush (pc := 71) d13_71 cb_8 (go_lushr (pc := 73) d13_73 (go_lstore (pc := 74) (L' := [.val (.ref 1), x1, x2, .val (.int (v3 + (8 : Int32))), .val (.long (XT.ushrL v4 (8 : Int32))), .second]) d13_74 rfl ?_))))
    exact k_lowestBit_76_ok (v3 + (8 : Int32)) (XT.ushrL v4 (8 : Int32)) x1 x2 hx1 _ (by simpa only [if_pos h1] using hf)
  · refine go_ifY (pc := 63) (pc' := 76) d13_63 (XT.ll_ne_t h1) j_63_13 ?_
    exact k_lowestBit_76_ok v3 v4 x1 x2 hx1 _ (by simpa only [if_neg h1] using hf)
set_option maxRecDepth 65536 in
set_option maxHeartbeats 4000000 in
theorem k_lowestBit_34_ok  {s : S} : ∀ (v3 : Int32) (v4 : Int64)  (x1 : Slot) (x2 : Slot) (hx1 : k2 x1 x2) (o : Int32), k_lowestBit_34 v3 v4 = o → Go PP m13 34 [.val (.ref 1), x1, x2, .val (.int v3), .val (.long v4), .second] [] (none, [(8, s)]) (some (.int o), (none, [(8, s)])) := by
  intro v3 v4 x1 x2 hx1 o hf
  unfold k_lowestBit_34 at hf
  refine go_lload (pc := 34) d13_34 rfl (go_ldc2 (pc := 36) (u := (65535 : Int64)) d13_36 (List.mem_of_getElem? (i := 147) rfl) (go_land (pc := 39) d13_39 (go_lconst (pc := 40) d13_40 cl_0 (go_lcmp (pc := 41) d13_41 ?_))))
  by_cases h1 : (v4 &&& (65535 : Int64)) = (0 : Int64)
  · refine go_ifN (pc := 42) d13_42 (XT.ll_ne_f h1) ?_
    refine go_iinc (pc := 45) (L' := [.val (.ref 1), x1, x2, .val (.int (v3 + (16 : Int32))), .val (.long v4), .second]) d13_45 rfl ci_16 rfl (go_lload (pc := 48) d13_48 rfl (go_bipush (pc := 50) d13_50 cb_16 (go_lushr (pc := 52) d13_52 (go_lstore (pc := 53) (L' := [.val (.ref 1), x1, x2, .val (.int (v3 + (16 : Int32))), .val (.long (XT.ushrL v4 (16 : Int32))), .second]) d13_53 rfl ?_))))
    exact k_lowestBit_55_ok (v3 + (16 : Int32)) (XT.ushrL v4 (16 : Int32)) x1 x2 hx1 _ (by simpa only [if_pos h1] using hf)
  · refine go_ifY (pc := 42) (pc' := 55) d13_42 (XT.ll_ne_t h1) j_42_13 ?_
    exact k_lowestBit_55_ok v3 v4 x1 x2 hx1 _ (by simpa only [if_neg h1] using hf)
set_option maxRecDepth 65536 in
set_option maxHeartbeats 4000000 in
theorem k_lowestBit_ok  {s : S} : ∀ (v1 : Int64)   (o : Int32), k_lowestBit v1 = o → Go PP m13 0 [.val (.ref 1), .val (.long v1), .second, .unset, .unset, .unset] [] (none, [(8, s)]) (some (.int o), (none, [(8, s)])) := by
  intro v1 o hf
  unfold k_lowestBit at hf
  refine go_lloadN (pc := 0) d13_0 rfl (go_lconst (pc := 1) d13_1 cl_0 (go_lcmp (pc := 2) d13_2 ?_))
  by_cases h1 : v1 = (0 : Int64)
  · replace hf := (if_pos h1).symm.trans hf
    refine go_ifN (pc := 3) d13_3 (XT.ll_ne_f h1) ?_
    refine go_iconst (pc := 6) d13_6 ci_m1 ?_
    cases hf
    exact go_iret (pc := 7) rfl d13_7
  · replace hf := (if_neg h1).symm.trans hf
    refine go_ifY (pc := 3) (pc' := 8) d13_3 (XT.ll_ne_t h1) j_3_5 ?_
    refine go_iconst (pc := 8) d13_8 ci_0 (go_istoreN (pc := 9) (L' := [.val (.ref 1), .val (.long v1), .second, .val (.int (0 : Int32)), .unset, .unset]) d13_9 rfl (go_lloadN (pc := 10) d13_10 rfl (go_lstore (pc := 11) (L' := [.val (.ref 1), .val (.long v1), .second, .val (.int (0 : Int32)), .val (.long v1), .second]) d13_11 rfl (go_lload (pc := 13) d13_13 rfl (go_ldc2 (pc := 15) (u := (4294967295 : Int64)) d13_15 (List.mem_of_getElem? (i := 146) rfl) (go_land (pc := 18) d13_18 (go_lconst (pc := 19) d13_19 cl_0 ?_)))))))
    refine go_lcmp (pc := 20) d13_20 ?_
    by_cases h2 : (v1 &&& (4294967295 : Int64)) = (0 : Int64)
    · refine go_ifN (pc := 21) d13_21 (XT.ll_ne_f h2) ?_
      refine go_iinc (pc := 24) (L' := [.val (.ref 1), .val (.long v1), .second, .val (.int ((0 : Int32) + (32 : Int32))), .val (.long v1), .second]) d13_24 rfl ci_32 rfl (go_lload (pc := 27) d13_27 rfl (go_bipush (pc := 29) d13_29 cb_32 (go_lushr (pc := 31) d13_31 (go_lstore (pc := 32) (L' := [.val (.ref 1), .val (.long v1), .second, .val (.int ((0 : Int32) + (32 : Int32))), .val (.long (XT.ushrL v1 (32 : Int32))), .second]) d13_32 rfl ?_))))
      exact k_lowestBit_34_ok ((0 : Int32) + (32 : Int32)) (XT.ushrL v1 (32 : Int32)) (.val (.long v1)) .second (Or.inr ⟨_, rfl, rfl⟩) _ (by simpa only [if_pos h2] using hf)
    · refine go_ifY (pc := 21) (pc' := 34) d13_21 (XT.ll_ne_t h2) j_21_13 ?_
      exact k_lowestBit_34_ok (0 : Int32) v1 (.val (.long v1)) .second (Or.inr ⟨_, rfl, rfl⟩) _ (by simpa only [if_neg h2] using hf)
theorem c_k_lowestBit (v1 : Int64) (s : S) : Call PP m13 [.ref 1, .long v1] (none, [(8, s)]) (some (.int (k_lowestBit v1)), (none, [(8, s)])) := call_of_go pl_0 rfl (fun h => nomatch h) (k_lowestBit_ok v1   _ rfl)
set_option maxRecDepth 65536 in
set_option maxHeartbeats 4000000 in
theorem k_bitOf_10_ok  {s : S} : ∀   (x1 : Slot) (hx1 : k1 x1) (o : Int64), k_bitOf_10 = o → Go PP m14 10 [.val (.ref 1), x1] [] (none, [(8, s)]) (some (.long o), (none, [(8, s)])) := by
  intro x1 hx1 o hf
  unfold k_bitOf_10 at hf
  refine go_lconst (pc := 10) d14_10 cl_0 ?_
  cases hf
  exact go_lret (pc := 11) rfl d14_11
set_option maxRecDepth 65536 in
set_option maxHeartbeats 4000000 in
theorem k_bitOf_ok  {s : S} : ∀ (v1 : Int32)   (o : Int64), k_bitOf v1 = o → Go PP m14 0 [.val (.ref 1), .val (.int v1)] [] (none, [(8, s)]) (some (.long o), (none, [(8, s)])) := by
  intro v1 o hf
  unfold k_bitOf at hf
  refine go_iloadN (pc := 0) d14_0 rfl ?_
  by_cases h1 : v1 < 0
  · replace hf := (if_pos h1).symm.trans hf
    refine go_ifY (pc := 1) (pc' := 10) d14_1 (XT.i0_lt_t h1) j_1_9 ?_
    exact k_bitOf_10_ok (.val (.int v1)) (Or.inr ⟨_, rfl, rfl⟩) _ hf
  · replace hf := (if_neg h1).symm.trans hf
    refine go_ifN (pc := 1) d14_1 (XT.i0_lt_f h1) ?_
    refine go_iloadN (pc := 4) d14_4 rfl (go_bipush (pc := 5) d14_5 cb_63 ?_)
    by_cases h2 : (63 : Int32) < v1
    · replace hf := (if_pos h2).symm.trans hf
      refine go_icN (pc := 7) d14_7 (XT.ii_le_f h2) ?_
      exact k_bitOf_10_ok (.val (.int v1)) (Or.inr ⟨_, rfl, rfl⟩) _ hf
    · replace hf := (if_neg h2).symm.trans hf
      refine go_icY (pc := 7) (pc' := 12) d14_7 (XT.ii_le_t h2) j_7_5 ?_
      refine go_lconst (pc := 12) d14_12 cl_1 (go_iloadN (pc := 13) d14_13 rfl (go_lshl (pc := 14) d14_14 ?_))
      cases hf
      exact go_lret (pc := 15) rfl d14_15
theorem c_k_bitOf (v1 : Int32) (s : S) : Call PP m14 [.ref 1, .int v1] (none, [(8, s)]) (some (.long (k_bitOf v1)), (none, [(8, s)])) := call_of_go pl_0 rfl (fun h => nomatch h) (k_bitOf_ok v1   _ rfl)
set_option maxRecDepth 65536 in
set_option maxHeartbeats 4000000 in
theorem k_enterState_134_ok  : ∀ (v1 : Int32) (v2 : Int32) (s : S) (x3 : Slot) (x4 : Slot) (hx3 : k2 x3 x4) (o : S), k_enterState_134 v1 v2 s = some o → Go PP m15 134 [.val (.ref 1), .val (.int v1), .val (.int v2), x3, x4] [] (none, [(8, s)]) (none, (none, [(8, o)])) := by
  intro v1 v2 s x3 x4 hx3 o hf
  unfold k_enterState_134 at hf
  refine go_aloadN (pc := 134) d15_134 rfl (go_getA (pc := 135) fa_7 hm_15 d15_135 rfl (go_iloadN (pc := 138) d15_138 rfl (go_iloadN (pc := 139) d15_139 rfl (go_i2b (pc := 140) d15_140 ?_))))
  obtain ⟨a141, e1, hf⟩ := Option.bind_eq_some_iff.mp hf
  refine go_bastore (pc := 141) (q := 0) ar_0 (by decide) rfl hn_15 rfl e1 d15_141 ?_
  refine go_aloadN (pc := 142) d15_142 rfl (go_iconst (pc := 143) d15_143 ci_1 (go_putZ (pc := 144) fs_141 hm_15 (wr_6 _) hn_15 (by decide) d15_144 ?_))
  cases hf
  exact go_ret (pc := 147) rfl d15_147
set_option maxRecDepth 65536 in
set_option maxHeartbeats 4000000 in
theorem k_enterState_ok  : ∀ (v1 : Int32) (v2 : Int32) (s : S)  (o : S), k_enterState v1 v2 s = some o → Go PP m15 0 [.val (.ref 1), .val (.int v1), .val (.int v2), .unset, .unset] [] (none, [(8, s)]) (none, (none, [(8, o)])) := by
  intro v1 v2 s o hf
  unfold k_enterState at hf
  refine go_aloadN (pc := 0) d15_0 rfl (go_iloadN (pc := 1) d15_1 rfl ?_)
  refine go_priv (pc := 2) (i := 0) (as := [.int v1]) (rest := []) (w' := (none, [(8, s)])) lk_0_62 pd_6 rfl oid_0 rfl rfl rfl rfl rfl rfl ⟨rfl, rfl, rfl, rfl, rfl⟩ d15_2 (c_k_frameInRange v1 s) ?_
  by_cases h1 : (k_frameInRange v1 s) = 0
  · replace hf := (if_pos h1).symm.trans hf
    refine go_ifN (pc := 5) d15_5 (XT.i0_ne_f h1) ?_
    cases hf
    exact go_ret (pc := 8) rfl d15_8
  · replace hf := (if_neg h1).symm.trans hf
    refine go_ifY (pc := 5) (pc' := 9) d15_5 (XT.i0_ne_t h1) j_5_4 ?_
    refine go_aloadN (pc := 9) d15_9 rfl (go_iloadN (pc := 10) d15_10 rfl ?_)
    refine go_priv (pc := 11) (i := 0) (as := [.int v1]) (rest := []) (w' := (none, [(8, s)])) lk_0_145 pd_14 rfl oid_0 rfl rfl rfl rfl rfl rfl ⟨rfl, rfl, rfl, rfl, rfl⟩ d15_11 (c_k_bitOf v1 s) ?_
    refine go_lstoreN (pc := 14) (L' := [.val (.ref 1), .val (.int v1), .val (.int v2), .val (.long (k_bitOf v1)), .second]) d15_14 rfl (go_aloadN (pc := 15) d15_15 rfl (go_aloadN (pc := 16) d15_16 rfl (go_getJ (pc := 17) fs_54 hm_15 d15_17 (go_lloadN (pc := 20) d15_20 rfl (go_ldc2 (pc := 21) (u := (-1 : Int64)) d15_21 (List.mem_of_getElem? (i := 159) rfl) (go_lxor (pc := 24) d15_24 (go_land (pc := 25) d15_25 ?_)))))))
    refine go_putJ (pc := 26) fs_54 hm_15 (wr_2 _) hn_15 d15_26 (go_aloadN (pc := 29) d15_29 rfl (go_aloadN (pc := 30) d15_30 rfl (go_getJ (pc := 31) fs_132 hm_15 d15_31 (go_lloadN (pc := 34) d15_34 rfl (go_ldc2 (pc := 35) (u := (-1 : Int64)) d15_35 (List.mem_of_getElem? (i := 159) rfl) (go_lxor (pc := 38) d15_38 (go_land (pc := 39) d15_39 ?_)))))))
    refine go_putJ (pc := 40) fs_132 hm_15 (wr_3 _) hn_15 d15_40 (go_aloadN (pc := 43) d15_43 rfl (go_aloadN (pc := 44) d15_44 rfl (go_getJ (pc := 45) fs_135 hm_15 d15_45 (go_lloadN (pc := 48) d15_48 rfl (go_ldc2 (pc := 49) (u := (-1 : Int64)) d15_49 (List.mem_of_getElem? (i := 159) rfl) (go_lxor (pc := 52) d15_52 (go_land (pc := 53) d15_53 ?_)))))))
    refine go_putJ (pc := 54) fs_135 hm_15 (wr_4 _) hn_15 d15_54 (go_aloadN (pc := 57) d15_57 rfl (go_aloadN (pc := 58) d15_58 rfl (go_getJ (pc := 59) fs_138 hm_15 d15_59 (go_lloadN (pc := 62) d15_62 rfl (go_ldc2 (pc := 63) (u := (-1 : Int64)) d15_63 (List.mem_of_getElem? (i := 159) rfl) (go_lxor (pc := 66) d15_66 (go_land (pc := 67) d15_67 ?_)))))))
    refine go_putJ (pc := 68) fs_138 hm_15 (wr_5 _) hn_15 d15_68 (go_iloadN (pc := 71) d15_71 rfl ?_)
    by_cases h2 : v2 = 0
    · replace hf := (if_pos h2).symm.trans hf
      refine go_ifN (pc := 72) d15_72 (XT.i0_ne_f h2) ?_
      refine go_aloadN (pc := 75) d15_75 rfl (go_aloadN (pc := 76) d15_76 rfl (go_getJ (pc := 77) fs_54 hm_15 d15_77 (go_lloadN (pc := 80) d15_80 rfl (go_lor (pc := 81) d15_81 (go_putJ (pc := 82) fs_54 hm_15 (wr_2 _) hn_15 d15_82 (go_goto (pc := 85) (pc' := 134) d15_85 j_85_49 ?_))))))
      exact k_enterState_134_ok v1 v2 (sL (sL (sL (sL (sL s 2 ((gL s 2) &&& ((k_bitOf v1) ^^^ (-1 : Int64)))) 3 ((gL s 3) &&& ((k_bitOf v1) ^^^ (-1 : Int64)))) 4 ((gL s 4) &&& ((k_bitOf v1) ^^^ (-1 : Int64)))) 5 ((gL s 5) &&& ((k_bitOf v1) ^^^ (-1 : Int64)))) 2 (((gL s 2) &&& ((k_bitOf v1) ^^^ (-1 : Int64))) ||| (k_bitOf v1))) (.val (.long (k_bitOf v1))) .second (Or.inr ⟨_, rfl, rfl⟩) _ hf
    · replace hf := (if_neg h2).symm.trans hf
      refine go_ifY (pc := 72) (pc' := 88) d15_72 (XT.i0_ne_t h2) j_72_16 ?_
      refine go_iloadN (pc := 88) d15_88 rfl (go_iconst (pc := 89) d15_89 ci_1 ?_)
      by_cases h3 : v2 = (1 : Int32)
      · replace hf := (if_pos h3).symm.trans hf
        refine go_icN (pc := 90) d15_90 (XT.ii_ne_f h3) ?_
        refine go_aloadN (pc := 93) d15_93 rfl (go_aloadN (pc := 94) d15_94 rfl (go_getJ (pc := 95) fs_132 hm_15 d15_95 (go_lloadN (pc := 98) d15_98 rfl (go_lor (pc := 99) d15_99 (go_putJ (pc := 100) fs_132 hm_15 (wr_3 _) hn_15 d15_100 (go_goto (pc := 103) (pc' := 134) d15_103 j_103_31 ?_))))))
        exact k_enterState_134_ok v1 v2 (sL (sL (sL (sL (sL s 2 ((gL s 2) &&& ((k_bitOf v1) ^^^ (-1 : Int64)))) 3 ((gL s 3) &&& ((k_bitOf v1) ^^^ (-1 : Int64)))) 4 ((gL s 4) &&& ((k_bitOf v1) ^^^ (-1 : Int64)))) 5 ((gL s 5) &&& ((k_bitOf v1) ^^^ (-1 : Int64)))) 3 (((gL s 3) &&& ((k_bitOf v1) ^^^ (-1 : Int64))) ||| (k_bitOf v1))) (.val (.long (k_bitOf v1))) .second (Or.inr ⟨_, rfl, rfl⟩) _ hf
      · replace hf := (if_neg h3).symm.trans hf
        refine go_icY (pc := 90) (pc' := 106) d15_90 (XT.ii_ne_t h3) j_90_16 ?_
        refine go_iloadN (pc := 106) d15_106 rfl (go_iconst (pc := 107) d15_107 ci_2 ?_)
        by_cases h4 : v2 = (2 : Int32)
        · replace hf := (if_pos h4).symm.trans hf
          refine go_icN (pc := 108) d15_108 (XT.ii_ne_f h4) ?_
          refine go_aloadN (pc := 111) d15_111 rfl (go_aloadN (pc := 112) d15_112 rfl (go_getJ (pc := 113) fs_135 hm_15 d15_113 (go_lloadN (pc := 116) d15_116 rfl (go_lor (pc := 117) d15_117 (go_putJ (pc := 118) fs_135 hm_15 (wr_4 _) hn_15 d15_118 (go_goto (pc := 121) (pc' := 134) d15_121 j_121_13 ?_))))))
          exact k_enterState_134_ok v1 v2 (sL (sL (sL (sL (sL s 2 ((gL s 2) &&& ((k_bitOf v1) ^^^ (-1 : Int64)))) 3 ((gL s 3) &&& ((k_bitOf v1) ^^^ (-1 : Int64)))) 4 ((gL s 4) &&& ((k_bitOf v1) ^^^ (-1 : Int64)))) 5 ((gL s 5) &&& ((k_bitOf v1) ^^^ (-1 : Int64)))) 4 (((gL s 4) &&& ((k_bitOf v1) ^^^ (-1 : Int64))) ||| (k_bitOf v1))) (.val (.long (k_bitOf v1))) .second (Or.inr ⟨_, rfl, rfl⟩) _ hf
        · replace hf := (if_neg h4).symm.trans hf
          refine go_icY (pc := 108) (pc' := 124) d15_108 (XT.ii_ne_t h4) j_108_16 ?_
          refine go_aloadN (pc := 124) d15_124 rfl (go_aloadN (pc := 125) d15_125 rfl (go_getJ (pc := 126) fs_138 hm_15 d15_126 (go_lloadN (pc := 129) d15_129 rfl (go_lor (pc := 130) d15_130 (go_putJ (pc := 131) fs_138 hm_15 (wr_5 _) hn_15 d15_131 ?_)))))
          exact k_enterState_134_ok v1 v2 (sL (sL (sL (sL (sL s 2 ((gL s 2) &&& ((k_bitOf v1) ^^^ (-1 : Int64)))) 3 ((gL s 3) &&& ((k_bitOf v1) ^^^ (-1 : Int64)))) 4 ((gL s 4) &&& ((k_bitOf v1) ^^^ (-1 : Int64)))) 5 ((gL s 5) &&& ((k_bitOf v1) ^^^ (-1 : Int64)))) 5 (((gL s 5) &&& ((k_bitOf v1) ^^^ (-1 : Int64))) ||| (k_bitOf v1))) (.val (.long (k_bitOf v1))) .second (Or.inr ⟨_, rfl, rfl⟩) _ hf
theorem c_k_enterState (v1 : Int32) (v2 : Int32) (s : S) (o : S) (hf : k_enterState v1 v2 s = some o) : Call PP m15 [.ref 1, .int v1, .int v2] (none, [(8, s)]) (none, (none, [(8, o)])) := call_of_go pl_0 rfl (fun _ => rfl) (k_enterState_ok v1 v2 s   _ hf)
set_option maxRecDepth 65536 in
set_option maxHeartbeats 4000000 in
theorem k_rmapLink_38_ok  : ∀ (v1 : Int32) (v2 : Int32) (s : S) (x3 : Slot) (hx3 : k1 x3) (o : S), k_rmapLink_38 v1 v2 s = some o → Go PP m16 38 [.val (.ref 1), .val (.int v1), .val (.int v2), x3] [] (none, [(8, s)]) (none, (none, [(8, o)])) := by
  intro v1 v2 s x3 hx3 o hf
  unfold k_rmapLink_38 at hf
  refine go_aloadN (pc := 38) d16_38 rfl (go_getA (pc := 39) fa_23 hm_16 d16_39 rfl (go_iloadN (pc := 42) d16_42 rfl (go_iloadN (pc := 43) d16_43 rfl ?_)))
  obtain ⟨a44, e1, hf⟩ := Option.bind_eq_some_iff.mp hf
  refine go_iastore (pc := 44) (q := 4) ar_4 rfl hn_16 e1 d16_44 ?_
  refine go_aloadN (pc := 45) d16_45 rfl (go_getA (pc := 46) fa_20 hm_16 d16_46 rfl (go_iloadN (pc := 49) d16_49 rfl (go_iloadN (pc := 50) d16_50 rfl ?_)))
  obtain ⟨a51, e2, hf⟩ := Option.bind_eq_some_iff.mp hf
  refine go_iastore (pc := 51) (q := 3) ar_3 rfl hn_16 e2 d16_51 ?_
  cases hf
  exact go_ret (pc := 52) rfl d16_52
set_option maxRecDepth 65536 in
set_option maxHeartbeats 4000000 in
theorem k_rmapLink_ok  : ∀ (v1 : Int32) (v2 : Int32) (s : S)  (o : S), k_rmapLink v1 v2 s = some o → Go PP m16 0 [.val (.ref 1), .val (.int v1), .val (.int v2), .unset] [] (none, [(8, s)]) (none, (none, [(8, o)])) := by
  intro v1 v2 s o hf
  unfold k_rmapLink at hf
  refine go_aloadN (pc := 0) d16_0 rfl (go_getA (pc := 1) fa_23 hm_16 d16_1 rfl (go_iloadN (pc := 4) d16_4 rfl ?_))
  obtain ⟨a5, e1, hf⟩ := Option.bind_eq_some_iff.mp hf
  refine go_iaload (pc := 5) (q := 4) ar_4 rfl e1 d16_5 ?_
  refine go_istoreN (pc := 6) (L' := [.val (.ref 1), .val (.int v1), .val (.int v2), .val (.int a5)]) d16_6 rfl (go_aloadN (pc := 7) d16_7 rfl (go_getA (pc := 8) fa_29 hm_16 d16_8 rfl (go_iloadN (pc := 11) d16_11 rfl (go_iconst (pc := 12) d16_12 ci_m1 ?_))))
  obtain ⟨a13, e2, hf⟩ := Option.bind_eq_some_iff.mp hf
  refine go_iastore (pc := 13) (q := 6) ar_6 rfl hn_16 e2 d16_13 ?_
  refine go_aloadN (pc := 14) d16_14 rfl (go_getA (pc := 15) fa_26 hm_16 d16_15 rfl (go_iloadN (pc := 18) d16_18 rfl (go_iloadN (pc := 19) d16_19 rfl ?_)))
  obtain ⟨a20, e3, hf⟩ := Option.bind_eq_some_iff.mp hf
  refine go_iastore (pc := 20) (q := 5) ar_5 rfl hn_16 e3 d16_20 ?_
  refine go_iloadN (pc := 21) d16_21 rfl ?_
  by_cases h4 : a5 < 0
  · replace hf := (if_pos h4).symm.trans hf
    refine go_ifY (pc := 22) (pc' := 38) d16_22 (XT.i0_lt_t h4) j_22_16 ?_
    exact k_rmapLink_38_ok v1 v2 (sA (sA s 6 a13) 5 a20) (.val (.int a5)) (Or.inr ⟨_, rfl, rfl⟩) _ hf
  · replace hf := (if_neg h4).symm.trans hf
    refine go_ifN (pc := 22) d16_22 (XT.i0_lt_f h4) ?_
    refine go_iloadN (pc := 25) d16_25 rfl (go_bipush (pc := 26) d16_26 cb_64 ?_)
    by_cases h5 : a5 < (64 : Int32)
    · replace hf := (if_pos h5).symm.trans hf
      refine go_icN (pc := 28) d16_28 (XT.ii_ge_f h5) ?_
      refine go_aloadN (pc := 31) d16_31 rfl (go_getA (pc := 32) fa_29 hm_16 d16_32 rfl (go_iloadN (pc := 35) d16_35 rfl (go_iloadN (pc := 36) d16_36 rfl ?_)))
      obtain ⟨a37, e6, hf⟩ := Option.bind_eq_some_iff.mp hf
      refine go_iastore (pc := 37) (q := 6) ar_6 rfl hn_16 e6 d16_37 ?_
      exact k_rmapLink_38_ok v1 v2 (sA (sA (sA s 6 a13) 5 a20) 6 a37) (.val (.int a5)) (Or.inr ⟨_, rfl, rfl⟩) _ hf
    · replace hf := (if_neg h5).symm.trans hf
      refine go_icY (pc := 28) (pc' := 38) d16_28 (XT.ii_ge_t h5) j_28_10 ?_
      exact k_rmapLink_38_ok v1 v2 (sA (sA s 6 a13) 5 a20) (.val (.int a5)) (Or.inr ⟨_, rfl, rfl⟩) _ hf
theorem c_k_rmapLink (v1 : Int32) (v2 : Int32) (s : S) (o : S) (hf : k_rmapLink v1 v2 s = some o) : Call PP m16 [.ref 1, .int v1, .int v2] (none, [(8, s)]) (none, (none, [(8, o)])) := call_of_go pl_0 rfl (fun _ => rfl) (k_rmapLink_ok v1 v2 s   _ hf)
set_option maxRecDepth 65536 in
set_option maxHeartbeats 4000000 in
theorem k_attachPage_ok  : ∀ (v1 : Int32) (v2 : Int32) (s : S)  (o : S), k_attachPage v1 v2 s = some o → Go PP m17 0 [.val (.ref 1), .val (.int v1), .val (.int v2)] [] (none, [(8, s)]) (none, (none, [(8, o)])) := by
  intro v1 v2 s o hf
  unfold k_attachPage at hf
  refine go_iloadN (pc := 0) d17_0 rfl ?_
  by_cases h1 : v1 < 0
  · replace hf := (if_pos h1).symm.trans hf
    refine go_ifY (pc := 1) (pc' := 18) d17_1 (XT.i0_lt_t h1) j_1_17 ?_
    cases hf
    exact go_ret (pc := 18) rfl d17_18
  · replace hf := (if_neg h1).symm.trans hf
    refine go_ifN (pc := 1) d17_1 (XT.i0_lt_f h1) ?_
    refine go_iloadN (pc := 4) d17_4 rfl (go_bipush (pc := 5) d17_5 cb_64 ?_)
    by_cases h2 : v1 < (64 : Int32)
    · replace hf := (if_pos h2).symm.trans hf
      refine go_icN (pc := 7) d17_7 (XT.ii_ge_f h2) ?_
      refine go_aloadN (pc := 10) d17_10 rfl (go_iloadN (pc := 11) d17_11 rfl ?_)
      refine go_priv (pc := 12) (i := 0) (as := [.int v2]) (rest := []) (w' := (none, [(8, s)])) lk_0_62 pd_6 rfl oid_0 rfl rfl rfl rfl rfl rfl ⟨rfl, rfl, rfl, rfl, rfl⟩ d17_12 (c_k_frameInRange v2 s) ?_
      by_cases h3 : (k_frameInRange v2 s) = 0
      · replace hf := (if_pos h3).symm.trans hf
        refine go_ifN (pc := 15) d17_15 (XT.i0_ne_f h3) ?_
        cases hf
        exact go_ret (pc := 18) rfl d17_18
      · replace hf := (if_neg h3).symm.trans hf
        refine go_ifY (pc := 15) (pc' := 19) d17_15 (XT.i0_ne_t h3) j_15_4 ?_
        refine go_aloadN (pc := 19) d17_19 rfl (go_iloadN (pc := 20) d17_20 rfl (go_iloadN (pc := 21) d17_21 rfl ?_))
        obtain ⟨r22, e4, hf⟩ := Option.bind_eq_some_iff.mp hf
        refine go_priv (pc := 22) (i := 0) (as := [.int v1, .int v2]) (rest := []) (w' := (none, [(8, r22)])) lk_0_153 pd_16 rfl oid_0 rfl rfl rfl rfl rfl rfl ⟨rfl, rfl, rfl, rfl, rfl⟩ d17_22 (c_k_rmapLink v1 v2 s _ e4) ?_
        refine go_aloadN (pc := 25) d17_25 rfl (go_getA (pc := 26) fa_17 hm_17 d17_26 rfl (go_iloadN (pc := 29) d17_29 rfl (go_aloadN (pc := 30) d17_30 rfl (go_getA (pc := 31) fa_17 hm_17 d17_31 rfl (go_iloadN (pc := 34) d17_34 rfl ?_)))))
        obtain ⟨a35, e5, hf⟩ := Option.bind_eq_some_iff.mp hf
        refine go_iaload (pc := 35) (q := 2) ar_2 rfl e5 d17_35 ?_
        refine go_iconst (pc := 36) d17_36 ci_1 (go_iadd (pc := 37) d17_37 ?_)
        obtain ⟨a38, e6, hf⟩ := Option.bind_eq_some_iff.mp hf
        refine go_iastore (pc := 38) (q := 2) ar_2 rfl hn_17 e6 d17_38 ?_
        cases hf
        exact go_ret (pc := 39) rfl d17_39
    · replace hf := (if_neg h2).symm.trans hf
      refine go_icY (pc := 7) (pc' := 18) d17_7 (XT.ii_ge_t h2) j_7_11 ?_
      cases hf
      exact go_ret (pc := 18) rfl d17_18
theorem c_k_attachPage (v1 : Int32) (v2 : Int32) (s : S) (o : S) (hf : k_attachPage v1 v2 s = some o) : Call PP m17 [.ref 1, .int v1, .int v2] (none, [(8, s)]) (none, (none, [(8, o)])) := call_of_go pl_0 rfl (fun _ => rfl) (k_attachPage_ok v1 v2 s   _ hf)
set_option maxRecDepth 65536 in
set_option maxHeartbeats 4000000 in
theorem k_mapNew_ok  : ∀ (v1 : Int32) (v2 : Int32) (v3 : Int32) (s : S)  (o : Int32 × S), k_mapNew v1 v2 v3 s = some o → Go PP m18 0 [.val (.ref 1), .val (.int v1), .val (.int v2), .val (.int v3), .unset, .unset, .unset] [] (none, [(8, s)]) (some (.int o.1), (none, [(8, o.2)])) := by
  intro v1 v2 v3 s o hf
  unfold k_mapNew at hf
  refine go_aloadN (pc := 0) d18_0 rfl (go_iloadN (pc := 1) d18_1 rfl (go_iloadN (pc := 2) d18_2 rfl ?_))
  obtain ⟨r3, e1, hf⟩ := Option.bind_eq_some_iff.mp hf
  refine go_priv (pc := 3) (i := 0) (as := [.int v1, .int v2]) (rest := []) (w' := (none, [(8, s)])) lk_0_50 pd_12 rfl oid_0 rfl rfl rfl rfl rfl rfl ⟨rfl, rfl, rfl, rfl, rfl⟩ d18_3 (c_k_checkTarget v1 v2 s _ e1) ?_
  refine go_istore (pc := 6) (L' := [.val (.ref 1), .val (.int v1), .val (.int v2), .val (.int v3), .val (.int r3), .unset, .unset]) d18_6 rfl (go_iload (pc := 8) d18_8 rfl ?_)
  by_cases h2 : r3 = 0
  · replace hf := (if_pos h2).symm.trans hf
    refine go_ifY (pc := 10) (pc' := 16) d18_10 (XT.i0_eq_t h2) j_10_6 ?_
    refine go_aloadN (pc := 16) d18_16 rfl (go_getJ (pc := 17) fs_54 hm_18 d18_17 (go_lconst (pc := 20) d18_20 cl_0 (go_lcmp (pc := 21) d18_21 ?_)))
    by_cases h3 : (gL s 2) = (0 : Int64)
    · replace hf := (if_pos h3).symm.trans hf
      refine go_ifN (pc := 22) d18_22 (XT.ll_ne_f h3) ?_
      refine go_bipush (pc := 25) d18_25 cb_m4 ?_
      cases hf
      exact go_iret (pc := 27) rfl d18_27
    · replace hf := (if_neg h3).symm.trans hf
      refine go_ifY (pc := 22) (pc' := 28) d18_22 (XT.ll_ne_t h3) j_22_6 ?_
      refine go_aloadN (pc := 28) d18_28 rfl (go_aloadN (pc := 29) d18_29 rfl (go_getJ (pc := 30) fs_54 hm_18 d18_30 ?_))
      refine go_priv (pc := 33) (i := 0) (as := [.long (gL s 2)]) (rest := []) (w' := (none, [(8, s)])) lk_0_58 pd_13 rfl oid_0 rfl rfl rfl rfl rfl rfl ⟨rfl, rfl, rfl, rfl, rfl⟩ d18_33 (c_k_lowestBit (gL s 2) s) ?_
      refine go_istore (pc := 36) (L' := [.val (.ref 1), .val (.int v1), .val (.int v2), .val (.int v3), .val (.int r3), .val (.int (k_lowestBit (gL s 2))), .unset]) d18_36 rfl (go_aloadN (pc := 38) d18_38 rfl (go_iload (pc := 39) d18_39 rfl ?_))
      refine go_priv (pc := 41) (i := 0) (as := [.int (k_lowestBit (gL s 2))]) (rest := []) (w' := (none, [(8, s)])) lk_0_62 pd_6 rfl oid_0 rfl rfl rfl rfl rfl rfl ⟨rfl, rfl, rfl, rfl, rfl⟩ d18_41 (c_k_frameInRange (k_lowestBit (gL s 2)) s) ?_
      by_cases h4 : (k_frameInRange (k_lowestBit (gL s 2)) s) = 0
      · replace hf := (if_pos h4).symm.trans hf
        refine go_ifN (pc := 44) d18_44 (XT.i0_ne_f h4) ?_
        refine go_bipush (pc := 47) d18_47 cb_m4 ?_
        cases hf
        exact go_iret (pc := 49) rfl d18_49
      · replace hf := (if_neg h4).symm.trans hf
        refine go_ifY (pc := 44) (pc' := 50) d18_44 (XT.i0_ne_t h4) j_44_6 ?_
        refine go_aloadN (pc := 50) d18_50 rfl (go_iloadN (pc := 51) d18_51 rfl (go_iloadN (pc := 52) d18_52 rfl ?_))
        refine go_priv (pc := 53) (i := 0) (as := [.int v1, .int v2]) (rest := []) (w' := (none, [(8, s)])) lk_0_66 pd_5 rfl oid_0 rfl rfl rfl rfl rfl rfl ⟨rfl, rfl, rfl, rfl, rfl⟩ d18_53 (c_k_slotOf v1 v2 s) ?_
        refine go_istore (pc := 56) (L' := [.val (.ref 1), .val (.int v1), .val (.int v2), .val (.int v3), .val (.int r3), .val (.int (k_lowestBit (gL s 2))), .val (.int (k_slotOf v1 v2))]) d18_56 rfl (go_aloadN (pc := 58) d18_58 rfl (go_iload (pc := 59) d18_59 rfl (go_iconst (pc := 61) d18_61 ci_1 ?_)))
        obtain ⟨r62, e5, hf⟩ := Option.bind_eq_some_iff.mp hf
        refine go_priv (pc := 62) (i := 0) (as := [.int (k_lowestBit (gL s 2)), .int (1 : Int32)]) (rest := []) (w' := (none, [(8, r62)])) lk_0_69 pd_15 rfl oid_0 rfl rfl rfl rfl rfl rfl ⟨rfl, rfl, rfl, rfl, rfl⟩ d18_62 (c_k_enterState (k_lowestBit (gL s 2)) (1 : Int32) s _ e5) ?_
        refine go_aloadN (pc := 65) d18_65 rfl (go_getA (pc := 66) fa_13 hm_18 d18_66 rfl (go_iload (pc := 69) d18_69 rfl (go_iloadN (pc := 71) d18_71 rfl ?_)))
        obtain ⟨a72, e6, hf⟩ := Option.bind_eq_some_iff.mp hf
        refine go_iastore (pc := 72) (q := 1) ar_1 rfl hn_18 e6 d18_72 ?_
        refine go_aloadN (pc := 73) d18_73 rfl (go_getA (pc := 74) fa_17 hm_18 d18_74 rfl (go_iload (pc := 77) d18_77 rfl (go_iconst (pc := 79) d18_79 ci_0 ?_)))
        obtain ⟨a80, e7, hf⟩ := Option.bind_eq_some_iff.mp hf
        refine go_iastore (pc := 80) (q := 2) ar_2 rfl hn_18 e7 d18_80 ?_
        refine go_aloadN (pc := 81) d18_81 rfl (go_iload (pc := 82) d18_82 rfl (go_iload (pc := 84) d18_84 rfl ?_))
        obtain ⟨r86, e8, hf⟩ := Option.bind_eq_some_iff.mp hf
        refine go_priv (pc := 86) (i := 0) (as := [.int (k_slotOf v1 v2), .int (k_lowestBit (gL s 2))]) (rest := []) (w' := (none, [(8, r86)])) lk_0_73 pd_17 rfl oid_0 rfl rfl rfl rfl rfl rfl ⟨rfl, rfl, rfl, rfl, rfl⟩ d18_86 (c_k_attachPage (k_slotOf v1 v2) (k_lowestBit (gL s 2)) (sA (sA r62 1 a72) 2 a80) _ e8) ?_
        refine go_iload (pc := 89) d18_89 rfl ?_
        cases hf
        exact go_iret (pc := 91) rfl d18_91
  · replace hf := (if_neg h2).symm.trans hf
    refine go_ifN (pc := 10) d18_10 (XT.i0_eq_f h2) ?_
    refine go_iload (pc := 13) d18_13 rfl ?_
    cases hf
    exact go_iret (pc := 15) rfl d18_15
theorem c_k_mapNew (v1 : Int32) (v2 : Int32) (v3 : Int32) (s : S) (o : Int32 × S) (hf : k_mapNew v1 v2 v3 s = some o) : Call PP m18 [.ref 1, .int v1, .int v2, .int v3] (none, [(8, s)]) (some (.int o.1), (none, [(8, o.2)])) := call_of_go pl_0 rfl (fun h => nomatch h) (k_mapNew_ok v1 v2 v3 s   _ hf)
set_option maxRecDepth 65536 in
set_option maxHeartbeats 4000000 in
theorem k_read_ok  : ∀ (v1 : Int32) (v2 : Int32) (s : S)  (o : Int32), k_read v1 v2 s = some o → Go PP m19 0 [.val (.ref 1), .val (.int v1), .val (.int v2), .unset] [] (none, [(8, s)]) (some (.int o), (none, [(8, s)])) := by
  intro v1 v2 s o hf
  unfold k_read at hf
  refine go_aloadN (pc := 0) d19_0 rfl (go_iloadN (pc := 1) d19_1 rfl (go_iloadN (pc := 2) d19_2 rfl ?_))
  obtain ⟨r3, e1, hf⟩ := Option.bind_eq_some_iff.mp hf
  refine go_priv (pc := 3) (i := 0) (as := [.int v1, .int v2]) (rest := []) (w' := (none, [(8, s)])) lk_0_88 pd_7 rfl oid_0 rfl rfl rfl rfl rfl rfl ⟨rfl, rfl, rfl, rfl, rfl⟩ d19_3 (c_k_mappedFrame v1 v2 s _ e1) ?_
  refine go_istoreN (pc := 6) (L' := [.val (.ref 1), .val (.int v1), .val (.int v2), .val (.int r3)]) d19_6 rfl (go_iloadN (pc := 7) d19_7 rfl ?_)
  by_cases h2 : r3 < 0
  · replace hf := (if_pos h2).symm.trans hf
    refine go_ifN (pc := 8) d19_8 (XT.i0_ge_f h2) ?_
    refine go_iconst (pc := 11) d19_11 ci_0 ?_
    cases hf
    exact go_iret (pc := 12) rfl d19_12
  · replace hf := (if_neg h2).symm.trans hf
    refine go_ifY (pc := 8) (pc' := 13) d19_8 (XT.i0_ge_t h2) j_8_5 ?_
    refine go_aloadN (pc := 13) d19_13 rfl (go_getA (pc := 14) fa_13 hm_19 d19_14 rfl (go_iloadN (pc := 17) d19_17 rfl ?_))
    obtain ⟨a18, e3, hf⟩ := Option.bind_eq_some_iff.mp hf
    refine go_iaload (pc := 18) (q := 1) ar_1 rfl e3 d19_18 ?_
    cases hf
    exact go_iret (pc := 19) rfl d19_19
theorem c_k_read (v1 : Int32) (v2 : Int32) (s : S) (o : Int32) (hf : k_read v1 v2 s = some o) : Call PP m19 [.ref 1, .int v1, .int v2] (none, [(8, s)]) (some (.int o), (none, [(8, s)])) := call_of_go pl_0 rfl (fun h => nomatch h) (k_read_ok v1 v2 s   _ hf)
set_option maxRecDepth 65536 in
set_option maxHeartbeats 4000000 in
theorem k_mapCount_ok  : ∀ (v1 : Int32) (s : S)  (o : Int32), k_mapCount v1 s = some o → Go PP m20 0 [.val (.ref 1), .val (.int v1)] [] (none, [(8, s)]) (some (.int o), (none, [(8, s)])) := by
  intro v1 s o hf
  unfold k_mapCount at hf
  refine go_aloadN (pc := 0) d20_0 rfl (go_iloadN (pc := 1) d20_1 rfl ?_)
  refine go_priv (pc := 2) (i := 0) (as := [.int v1]) (rest := []) (w' := (none, [(8, s)])) lk_0_62 pd_6 rfl oid_0 rfl rfl rfl rfl rfl rfl ⟨rfl, rfl, rfl, rfl, rfl⟩ d20_2 (c_k_frameInRange v1 s) ?_
  by_cases h1 : (k_frameInRange v1 s) = 0
  · replace hf := (if_pos h1).symm.trans hf
    refine go_ifN (pc := 5) d20_5 (XT.i0_ne_f h1) ?_
    refine go_iconst (pc := 8) d20_8 ci_0 ?_
    cases hf
    exact go_iret (pc := 9) rfl d20_9
  · replace hf := (if_neg h1).symm.trans hf
    refine go_ifY (pc := 5) (pc' := 10) d20_5 (XT.i0_ne_t h1) j_5_5 ?_
    refine go_aloadN (pc := 10) d20_10 rfl (go_getA (pc := 11) fa_17 hm_20 d20_11 rfl (go_iloadN (pc := 14) d20_14 rfl ?_))
    obtain ⟨a15, e2, hf⟩ := Option.bind_eq_some_iff.mp hf
    refine go_iaload (pc := 15) (q := 2) ar_2 rfl e2 d20_15 ?_
    cases hf
    exact go_iret (pc := 16) rfl d20_16
theorem c_k_mapCount (v1 : Int32) (s : S) (o : Int32) (hf : k_mapCount v1 s = some o) : Call PP m20 [.ref 1, .int v1] (none, [(8, s)]) (some (.int o), (none, [(8, s)])) := call_of_go pl_0 rfl (fun h => nomatch h) (k_mapCount_ok v1 s   _ hf)
set_option maxRecDepth 65536 in
set_option maxHeartbeats 4000000 in
theorem k_frameValue_ok  : ∀ (v1 : Int32) (s : S)  (o : Int32), k_frameValue v1 s = some o → Go PP m21 0 [.val (.ref 1), .val (.int v1), .unset] [] (none, [(8, s)]) (some (.int o), (none, [(8, s)])) := by
  intro v1 s o hf
  unfold k_frameValue at hf
  refine go_aloadN (pc := 0) d21_0 rfl (go_iloadN (pc := 1) d21_1 rfl ?_)
  refine go_priv (pc := 2) (i := 0) (as := [.int v1]) (rest := []) (w' := (none, [(8, s)])) lk_0_62 pd_6 rfl oid_0 rfl rfl rfl rfl rfl rfl ⟨rfl, rfl, rfl, rfl, rfl⟩ d21_2 (c_k_frameInRange v1 s) ?_
  by_cases h1 : (k_frameInRange v1 s) = 0
  · replace hf := (if_pos h1).symm.trans hf
    refine go_ifN (pc := 5) d21_5 (XT.i0_ne_f h1) ?_
    refine go_iconst (pc := 8) d21_8 ci_0 ?_
    cases hf
    exact go_iret (pc := 9) rfl d21_9
  · replace hf := (if_neg h1).symm.trans hf
    refine go_ifY (pc := 5) (pc' := 10) d21_5 (XT.i0_ne_t h1) j_5_5 ?_
    refine go_aloadN (pc := 10) d21_10 rfl (go_getA (pc := 11) fa_7 hm_21 d21_11 rfl (go_iloadN (pc := 14) d21_14 rfl ?_))
    obtain ⟨a15, e2, hf⟩ := Option.bind_eq_some_iff.mp hf
    refine go_baload (pc := 15) (q := 0) ar_0 (by decide) rfl e2 d21_15 ?_
    refine go_istoreN (pc := 16) (L' := [.val (.ref 1), .val (.int v1), .val (.int a15)]) d21_16 rfl (go_iloadN (pc := 17) d21_17 rfl ?_)
    by_cases h3 : a15 = 0
    · replace hf := (if_pos h3).symm.trans hf
      refine go_ifY (pc := 18) (pc' := 26) d21_18 (XT.i0_eq_t h3) j_18_8 ?_
      refine go_iconst (pc := 26) d21_26 ci_0 ?_
      cases hf
      exact go_iret (pc := 27) rfl d21_27
    · replace hf := (if_neg h3).symm.trans hf
      refine go_ifN (pc := 18) d21_18 (XT.i0_eq_f h3) ?_
      refine go_iloadN (pc := 21) d21_21 rfl (go_iconst (pc := 22) d21_22 ci_3 ?_)
      by_cases h4 : a15 = (3 : Int32)
      · replace hf := (if_pos h4).symm.trans hf
        refine go_icN (pc := 23) d21_23 (XT.ii_ne_f h4) ?_
        refine go_iconst (pc := 26) d21_26 ci_0 ?_
        cases hf
        exact go_iret (pc := 27) rfl d21_27
      · replace hf := (if_neg h4).symm.trans hf
        refine go_icY (pc := 23) (pc' := 28) d21_23 (XT.ii_ne_t h4) j_23_5 ?_
        refine go_aloadN (pc := 28) d21_28 rfl (go_getA (pc := 29) fa_13 hm_21 d21_29 rfl (go_iloadN (pc := 32) d21_32 rfl ?_))
        obtain ⟨a33, e5, hf⟩ := Option.bind_eq_some_iff.mp hf
        refine go_iaload (pc := 33) (q := 1) ar_1 rfl e5 d21_33 ?_
        cases hf
        exact go_iret (pc := 34) rfl d21_34
theorem c_k_frameValue (v1 : Int32) (s : S) (o : Int32) (hf : k_frameValue v1 s = some o) : Call PP m21 [.ref 1, .int v1] (none, [(8, s)]) (some (.int o), (none, [(8, s)])) := call_of_go pl_0 rfl (fun h => nomatch h) (k_frameValue_ok v1 s   _ hf)
set_option maxRecDepth 65536 in
set_option maxHeartbeats 4000000 in
theorem k_share_ok  : ∀ (v1 : Int32) (v2 : Int32) (v3 : Int32) (v4 : Int32) (s : S)  (o : Int32 × S), k_share v1 v2 v3 v4 s = some o → Go PP m22 0 [.val (.ref 1), .val (.int v1), .val (.int v2), .val (.int v3), .val (.int v4), .unset, .unset, .unset] [] (none, [(8, s)]) (some (.int o.1), (none, [(8, o.2)])) := by
  intro v1 v2 v3 v4 s o hf
  unfold k_share at hf
  refine go_aloadN (pc := 0) d22_0 rfl (go_iloadN (pc := 1) d22_1 rfl (go_iloadN (pc := 2) d22_2 rfl ?_))
  refine go_priv (pc := 3) (i := 0) (as := [.int v1, .int v2]) (rest := []) (w' := (none, [(8, s)])) lk_0_76 pd_4 rfl oid_0 rfl rfl rfl rfl rfl rfl ⟨rfl, rfl, rfl, rfl, rfl⟩ d22_3 (c_k_pageInRange v1 v2 s) ?_
  by_cases h1 : (k_pageInRange v1 v2 s) = 0
  · replace hf := (if_pos h1).symm.trans hf
    refine go_ifN (pc := 6) d22_6 (XT.i0_ne_f h1) ?_
    refine go_iconst (pc := 9) d22_9 ci_m1 ?_
    cases hf
    exact go_iret (pc := 10) rfl d22_10
  · replace hf := (if_neg h1).symm.trans hf
    refine go_ifY (pc := 6) (pc' := 11) d22_6 (XT.i0_ne_t h1) j_6_5 ?_
    refine go_aloadN (pc := 11) d22_11 rfl (go_iloadN (pc := 12) d22_12 rfl (go_iload (pc := 13) d22_13 rfl ?_))
    refine go_priv (pc := 15) (i := 0) (as := [.int v3, .int v4]) (rest := []) (w' := (none, [(8, s)])) lk_0_76 pd_4 rfl oid_0 rfl rfl rfl rfl rfl rfl ⟨rfl, rfl, rfl, rfl, rfl⟩ d22_15 (c_k_pageInRange v3 v4 s) ?_
    by_cases h2 : (k_pageInRange v3 v4 s) = 0
    · replace hf := (if_pos h2).symm.trans hf
      refine go_ifN (pc := 18) d22_18 (XT.i0_ne_f h2) ?_
      refine go_iconst (pc := 21) d22_21 ci_m1 ?_
      cases hf
      exact go_iret (pc := 22) rfl d22_22
    · replace hf := (if_neg h2).symm.trans hf
      refine go_ifY (pc := 18) (pc' := 23) d22_18 (XT.i0_ne_t h2) j_18_5 ?_
      refine go_aloadN (pc := 23) d22_23 rfl (go_iloadN (pc := 24) d22_24 rfl (go_iloadN (pc := 25) d22_25 rfl ?_))
      refine go_priv (pc := 26) (i := 0) (as := [.int v1, .int v2]) (rest := []) (w' := (none, [(8, s)])) lk_0_66 pd_5 rfl oid_0 rfl rfl rfl rfl rfl rfl ⟨rfl, rfl, rfl, rfl, rfl⟩ d22_26 (c_k_slotOf v1 v2 s) ?_
      refine go_istore (pc := 29) (L' := [.val (.ref 1), .val (.int v1), .val (.int v2), .val (.int v3), .val (.int v4), .val (.int (k_slotOf v1 v2)), .unset, .unset]) d22_29 rfl (go_aloadN (pc := 31) d22_31 rfl (go_getA (pc := 32) fa_20 hm_22 d22_32 rfl (go_iload (pc := 35) d22_35 rfl ?_)))
      obtain ⟨a37, e3, hf⟩ := Option.bind_eq_some_iff.mp hf
      refine go_iaload (pc := 37) (q := 3) ar_3 rfl e3 d22_37 ?_
      by_cases h4 : a37 < 0
      · replace hf := (if_pos h4).symm.trans hf
        refine go_ifY (pc := 38) (pc' := 44) d22_38 (XT.i0_lt_t h4) j_38_6 ?_
        refine go_aloadN (pc := 44) d22_44 rfl (go_iloadN (pc := 45) d22_45 rfl (go_iload (pc := 46) d22_46 rfl ?_))
        refine go_priv (pc := 48) (i := 0) (as := [.int v3, .int v4]) (rest := []) (w' := (none, [(8, s)])) lk_0_66 pd_5 rfl oid_0 rfl rfl rfl rfl rfl rfl ⟨rfl, rfl, rfl, rfl, rfl⟩ d22_48 (c_k_slotOf v3 v4 s) ?_
        refine go_istore (pc := 51) (L' := [.val (.ref 1), .val (.int v1), .val (.int v2), .val (.int v3), .val (.int v4), .val (.int (k_slotOf v1 v2)), .val (.int (k_slotOf v3 v4)), .unset]) d22_51 rfl (go_aloadN (pc := 53) d22_53 rfl (go_getA (pc := 54) fa_20 hm_22 d22_54 rfl (go_iload (pc := 57) d22_57 rfl ?_)))
        obtain ⟨a59, e5, hf⟩ := Option.bind_eq_some_iff.mp hf
        refine go_iaload (pc := 59) (q := 3) ar_3 rfl e5 d22_59 ?_
        refine go_istore (pc := 60) (L' := [.val (.ref 1), .val (.int v1), .val (.int v2), .val (.int v3), .val (.int v4), .val (.int (k_slotOf v1 v2)), .val (.int (k_slotOf v3 v4)), .val (.int a59)]) d22_60 rfl (go_aloadN (pc := 62) d22_62 rfl (go_iload (pc := 63) d22_63 rfl ?_))
        refine go_priv (pc := 65) (i := 0) (as := [.int a59]) (rest := []) (w' := (none, [(8, s)])) lk_0_62 pd_6 rfl oid_0 rfl rfl rfl rfl rfl rfl ⟨rfl, rfl, rfl, rfl, rfl⟩ d22_65 (c_k_frameInRange a59 s) ?_
        by_cases h6 : (k_frameInRange a59 s) = 0
        · replace hf := (if_pos h6).symm.trans hf
          refine go_ifN (pc := 68) d22_68 (XT.i0_ne_f h6) ?_
          refine go_bipush (pc := 71) d22_71 cb_m3 ?_
          cases hf
          exact go_iret (pc := 73) rfl d22_73
        · replace hf := (if_neg h6).symm.trans hf
          refine go_ifY (pc := 68) (pc' := 74) d22_68 (XT.i0_ne_t h6) j_68_6 ?_
          refine go_aloadN (pc := 74) d22_74 rfl (go_iload (pc := 75) d22_75 rfl (go_iload (pc := 77) d22_77 rfl ?_))
          obtain ⟨r79, e7, hf⟩ := Option.bind_eq_some_iff.mp hf
          refine go_priv (pc := 79) (i := 0) (as := [.int (k_slotOf v1 v2), .int a59]) (rest := []) (w' := (none, [(8, r79)])) lk_0_73 pd_17 rfl oid_0 rfl rfl rfl rfl rfl rfl ⟨rfl, rfl, rfl, rfl, rfl⟩ d22_79 (c_k_attachPage (k_slotOf v1 v2) a59 s _ e7) ?_
          refine go_iload (pc := 82) d22_82 rfl ?_
          cases hf
          exact go_iret (pc := 84) rfl d22_84
      · replace hf := (if_neg h4).symm.trans hf
        refine go_ifN (pc := 38) d22_38 (XT.i0_lt_f h4) ?_
        refine go_bipush (pc := 41) d22_41 cb_m2 ?_
        cases hf
        exact go_iret (pc := 43) rfl d22_43
theorem c_k_share (v1 : Int32) (v2 : Int32) (v3 : Int32) (v4 : Int32) (s : S) (o : Int32 × S) (hf : k_share v1 v2 v3 v4 s = some o) : Call PP m22 [.ref 1, .int v1, .int v2, .int v3, .int v4] (none, [(8, s)]) (some (.int o.1), (none, [(8, o.2)])) := call_of_go pl_0 rfl (fun h => nomatch h) (k_share_ok v1 v2 v3 v4 s   _ hf)
set_option maxRecDepth 65536 in
set_option maxHeartbeats 4000000 in
theorem k_rmapUnlink_95_ok  : ∀ (v1 : Int32) (v2 : Int32) (s : S) (x3 : Slot) (x4 : Slot) (hx3 : k1 x3) (hx4 : k1 x4) (o : Int32 × S), k_rmapUnlink_95 v1 v2 s = some o → Go PP m23 95 [.val (.ref 1), .val (.int v1), .val (.int v2), x3, x4] [] (none, [(8, s)]) (some (.int o.1), (none, [(8, o.2)])) := by
  intro v1 v2 s x3 x4 hx3 hx4 o hf
  unfold k_rmapUnlink_95 at hf
  refine go_aloadN (pc := 95) d23_95 rfl (go_getA (pc := 96) fa_29 hm_23 d23_96 rfl (go_iloadN (pc := 99) d23_99 rfl (go_iconst (pc := 100) d23_100 ci_m1 ?_)))
  obtain ⟨a101, e1, hf⟩ := Option.bind_eq_some_iff.mp hf
  refine go_iastore (pc := 101) (q := 6) ar_6 rfl hn_23 e1 d23_101 ?_
  refine go_aloadN (pc := 102) d23_102 rfl (go_getA (pc := 103) fa_26 hm_23 d23_103 rfl (go_iloadN (pc := 106) d23_106 rfl (go_iconst (pc := 107) d23_107 ci_m1 ?_)))
  obtain ⟨a108, e2, hf⟩ := Option.bind_eq_some_iff.mp hf
  refine go_iastore (pc := 108) (q := 5) ar_5 rfl hn_23 e2 d23_108 ?_
  refine go_aloadN (pc := 109) d23_109 rfl (go_getA (pc := 110) fa_20 hm_23 d23_110 rfl (go_iloadN (pc := 113) d23_113 rfl (go_iconst (pc := 114) d23_114 ci_m1 ?_)))
  obtain ⟨a115, e3, hf⟩ := Option.bind_eq_some_iff.mp hf
  refine go_iastore (pc := 115) (q := 3) ar_3 rfl hn_23 e3 d23_115 ?_
  refine go_iloadN (pc := 116) d23_116 rfl ?_
  cases hf
  exact go_iret (pc := 117) rfl d23_117
set_option maxRecDepth 65536 in
set_option maxHeartbeats 4000000 in
theorem k_rmapUnlink_75_ok  : ∀ (v1 : Int32) (v2 : Int32) (v3 : Int32) (v4 : Int32) (s : S)  (o : Int32 × S), k_rmapUnlink_75 v1 v2 v3 v4 s = some o → Go PP m23 75 [.val (.ref 1), .val (.int v1), .val (.int v2), .val (.int v3), .val (.int v4)] [] (none, [(8, s)]) (some (.int o.1), (none, [(8, o.2)])) := by
  intro v1 v2 v3 v4 s o hf
  unfold k_rmapUnlink_75 at hf
  refine go_iload (pc := 75) d23_75 rfl ?_
  by_cases h1 : v4 < 0
  · replace hf := (if_pos h1).symm.trans hf
    refine go_ifY (pc := 77) (pc' := 95) d23_77 (XT.i0_lt_t h1) j_77_18 ?_
    exact k_rmapUnlink_95_ok v1 v2 s (.val (.int v3)) (.val (.int v4)) (Or.inr ⟨_, rfl, rfl⟩) (Or.inr ⟨_, rfl, rfl⟩) _ hf
  · replace hf := (if_neg h1).symm.trans hf
    refine go_ifN (pc := 77) d23_77 (XT.i0_lt_f h1) ?_
    refine go_iload (pc := 80) d23_80 rfl (go_bipush (pc := 82) d23_82 cb_64 ?_)
    by_cases h2 : v4 < (64 : Int32)
    · replace hf := (if_pos h2).symm.trans hf
      refine go_icN (pc := 84) d23_84 (XT.ii_ge_f h2) ?_
      refine go_aloadN (pc := 87) d23_87 rfl (go_getA (pc := 88) fa_29 hm_23 d23_88 rfl (go_iload (pc := 91) d23_91 rfl (go_iloadN (pc := 93) d23_93 rfl ?_)))
      obtain ⟨a94, e3, hf⟩ := Option.bind_eq_some_iff.mp hf
      refine go_iastore (pc := 94) (q := 6) ar_6 rfl hn_23 e3 d23_94 ?_
      exact k_rmapUnlink_95_ok v1 v2 (sA s 6 a94) (.val (.int v3)) (.val (.int v4)) (Or.inr ⟨_, rfl, rfl⟩) (Or.inr ⟨_, rfl, rfl⟩) _ hf
    · replace hf := (if_neg h2).symm.trans hf
      refine go_icY (pc := 84) (pc' := 95) d23_84 (XT.ii_ge_t h2) j_84_11 ?_
      exact k_rmapUnlink_95_ok v1 v2 s (.val (.int v3)) (.val (.int v4)) (Or.inr ⟨_, rfl, rfl⟩) (Or.inr ⟨_, rfl, rfl⟩) _ hf
set_option maxRecDepth 65536 in
set_option maxHeartbeats 4000000 in
theorem k_rmapUnlink_67_ok  : ∀ (v1 : Int32) (v2 : Int32) (v3 : Int32) (v4 : Int32) (s : S)  (o : Int32 × S), k_rmapUnlink_67 v1 v2 v3 v4 s = some o → Go PP m23 67 [.val (.ref 1), .val (.int v1), .val (.int v2), .val (.int v3), .val (.int v4)] [] (none, [(8, s)]) (some (.int o.1), (none, [(8, o.2)])) := by
  intro v1 v2 v3 v4 s o hf
  unfold k_rmapUnlink_67 at hf
  refine go_aloadN (pc := 67) d23_67 rfl (go_getA (pc := 68) fa_23 hm_23 d23_68 rfl (go_iloadN (pc := 71) d23_71 rfl (go_iload (pc := 72) d23_72 rfl ?_)))
  obtain ⟨a74, e1, hf⟩ := Option.bind_eq_some_iff.mp hf
  refine go_iastore (pc := 74) (q := 4) ar_4 rfl hn_23 e1 d23_74 ?_
  exact k_rmapUnlink_75_ok v1 v2 v3 v4 (sA s 4 a74) _ hf
set_option maxRecDepth 65536 in
set_option maxHeartbeats 4000000 in
theorem k_rmapUnlink_ok  : ∀ (v1 : Int32) (s : S)  (o : Int32 × S), k_rmapUnlink v1 s = some o → Go PP m23 0 [.val (.ref 1), .val (.int v1), .unset, .unset, .unset] [] (none, [(8, s)]) (some (.int o.1), (none, [(8, o.2)])) := by
  intro v1 s o hf
  unfold k_rmapUnlink at hf
  refine go_iloadN (pc := 0) d23_0 rfl ?_
  by_cases h1 : v1 < 0
  · replace hf := (if_pos h1).symm.trans hf
    refine go_ifY (pc := 1) (pc' := 10) d23_1 (XT.i0_lt_t h1) j_1_9 ?_
    refine go_iconst (pc := 10) d23_10 ci_m1 ?_
    cases hf
    exact go_iret (pc := 11) rfl d23_11
  · replace hf := (if_neg h1).symm.trans hf
    refine go_ifN (pc := 1) d23_1 (XT.i0_lt_f h1) ?_
    refine go_iloadN (pc := 4) d23_4 rfl (go_bipush (pc := 5) d23_5 cb_64 ?_)
    by_cases h2 : v1 < (64 : Int32)
    · replace hf := (if_pos h2).symm.trans hf
      refine go_icY (pc := 7) (pc' := 12) d23_7 (XT.ii_lt_t h2) j_7_5 ?_
      refine go_aloadN (pc := 12) d23_12 rfl (go_getA (pc := 13) fa_20 hm_23 d23_13 rfl (go_iloadN (pc := 16) d23_16 rfl ?_))
      obtain ⟨a17, e3, hf⟩ := Option.bind_eq_some_iff.mp hf
      refine go_iaload (pc := 17) (q := 3) ar_3 rfl e3 d23_17 ?_
      refine go_istoreN (pc := 18) (L' := [.val (.ref 1), .val (.int v1), .val (.int a17), .unset, .unset]) d23_18 rfl (go_iloadN (pc := 19) d23_19 rfl ?_)
      by_cases h4 : a17 < 0
      · replace hf := (if_pos h4).symm.trans hf
        refine go_ifY (pc := 20) (pc' := 29) d23_20 (XT.i0_lt_t h4) j_20_9 ?_
        refine go_iconst (pc := 29) d23_29 ci_m1 ?_
        cases hf
        exact go_iret (pc := 30) rfl d23_30
      · replace hf := (if_neg h4).symm.trans hf
        refine go_ifN (pc := 20) d23_20 (XT.i0_lt_f h4) ?_
        refine go_iloadN (pc := 23) d23_23 rfl (go_bipush (pc := 24) d23_24 cb_64 ?_)
        by_cases h5 : a17 < (64 : Int32)
        · replace hf := (if_pos h5).symm.trans hf
          refine go_icY (pc := 26) (pc' := 31) d23_26 (XT.ii_lt_t h5) j_26_5 ?_
          refine go_aloadN (pc := 31) d23_31 rfl (go_getA (pc := 32) fa_29 hm_23 d23_32 rfl (go_iloadN (pc := 35) d23_35 rfl ?_))
          obtain ⟨a36, e6, hf⟩ := Option.bind_eq_some_iff.mp hf
          refine go_iaload (pc := 36) (q := 6) ar_6 rfl e6 d23_36 ?_
          refine go_istoreN (pc := 37) (L' := [.val (.ref 1), .val (.int v1), .val (.int a17), .val (.int a36), .unset]) d23_37 rfl (go_aloadN (pc := 38) d23_38 rfl (go_getA (pc := 39) fa_26 hm_23 d23_39 rfl (go_iloadN (pc := 42) d23_42 rfl ?_)))
          obtain ⟨a43, e7, hf⟩ := Option.bind_eq_some_iff.mp hf
          refine go_iaload (pc := 43) (q := 5) ar_5 rfl e7 d23_43 ?_
          refine go_istore (pc := 44) (L' := [.val (.ref 1), .val (.int v1), .val (.int a17), .val (.int a36), .val (.int a43)]) d23_44 rfl (go_iloadN (pc := 46) d23_46 rfl ?_)
          by_cases h8 : a36 < 0
          · replace hf := (if_pos h8).symm.trans hf
            refine go_ifY (pc := 47) (pc' := 67) d23_47 (XT.i0_lt_t h8) j_47_20 ?_
            exact k_rmapUnlink_67_ok v1 a17 a36 a43 s _ hf
          · replace hf := (if_neg h8).symm.trans hf
            refine go_ifN (pc := 47) d23_47 (XT.i0_lt_f h8) ?_
            refine go_iloadN (pc := 50) d23_50 rfl (go_bipush (pc := 51) d23_51 cb_64 ?_)
            by_cases h9 : a36 < (64 : Int32)
            · replace hf := (if_pos h9).symm.trans hf
              refine go_icN (pc := 53) d23_53 (XT.ii_ge_f h9) ?_
              refine go_aloadN (pc := 56) d23_56 rfl (go_getA (pc := 57) fa_26 hm_23 d23_57 rfl (go_iloadN (pc := 60) d23_60 rfl (go_iload (pc := 61) d23_61 rfl ?_)))
              obtain ⟨a63, e10, hf⟩ := Option.bind_eq_some_iff.mp hf
              refine go_iastore (pc := 63) (q := 5) ar_5 rfl hn_23 e10 d23_63 ?_
              refine go_goto (pc := 64) (pc' := 75) d23_64 j_64_11 ?_
              exact k_rmapUnlink_75_ok v1 a17 a36 a43 (sA s 5 a63) _ hf
            · replace hf := (if_neg h9).symm.trans hf
              refine go_icY (pc := 53) (pc' := 67) d23_53 (XT.ii_ge_t h9) j_53_14 ?_
              exact k_rmapUnlink_67_ok v1 a17 a36 a43 s _ hf
        · replace hf := (if_neg h5).symm.trans hf
          refine go_icN (pc := 26) d23_26 (XT.ii_lt_f h5) ?_
          refine go_iconst (pc := 29) d23_29 ci_m1 ?_
          cases hf
          exact go_iret (pc := 30) rfl d23_30
    · replace hf := (if_neg h2).symm.trans hf
      refine go_icN (pc := 7) d23_7 (XT.ii_lt_f h2) ?_
      refine go_iconst (pc := 10) d23_10 ci_m1 ?_
      cases hf
      exact go_iret (pc := 11) rfl d23_11
theorem c_k_rmapUnlink (v1 : Int32) (s : S) (o : Int32 × S) (hf : k_rmapUnlink v1 s = some o) : Call PP m23 [.ref 1, .int v1] (none, [(8, s)]) (some (.int o.1), (none, [(8, o.2)])) := call_of_go pl_0 rfl (fun h => nomatch h) (k_rmapUnlink_ok v1 s   _ hf)
set_option maxRecDepth 65536 in
set_option maxHeartbeats 4000000 in
theorem k_detachPage_ok  : ∀ (v1 : Int32) (s : S)  (o : Int32 × S), k_detachPage v1 s = some o → Go PP m24 0 [.val (.ref 1), .val (.int v1), .unset] [] (none, [(8, s)]) (some (.int o.1), (none, [(8, o.2)])) := by
  intro v1 s o hf
  unfold k_detachPage at hf
  refine go_aloadN (pc := 0) d24_0 rfl (go_iloadN (pc := 1) d24_1 rfl ?_)
  obtain ⟨r2, e1, hf⟩ := Option.bind_eq_some_iff.mp hf
  refine go_priv (pc := 2) (i := 0) (as := [.int v1]) (rest := []) (w' := (none, [(8, r2.2)])) lk_0_156 pd_23 rfl oid_0 rfl rfl rfl rfl rfl rfl ⟨rfl, rfl, rfl, rfl, rfl⟩ d24_2 (c_k_rmapUnlink v1 s _ e1) ?_
  refine go_istoreN (pc := 5) (L' := [.val (.ref 1), .val (.int v1), .val (.int r2.1)]) d24_5 rfl (go_aloadN (pc := 6) d24_6 rfl (go_iloadN (pc := 7) d24_7 rfl ?_))
  refine go_priv (pc := 8) (i := 0) (as := [.int r2.1]) (rest := []) (w' := (none, [(8, r2.2)])) lk_0_62 pd_6 rfl oid_0 rfl rfl rfl rfl rfl rfl ⟨rfl, rfl, rfl, rfl, rfl⟩ d24_8 (c_k_frameInRange r2.1 r2.2) ?_
  by_cases h2 : (k_frameInRange r2.1 r2.2) = 0
  · replace hf := (if_pos h2).symm.trans hf
    refine go_ifN (pc := 11) d24_11 (XT.i0_ne_f h2) ?_
    refine go_iconst (pc := 14) d24_14 ci_m1 ?_
    cases hf
    exact go_iret (pc := 15) rfl d24_15
  · replace hf := (if_neg h2).symm.trans hf
    refine go_ifY (pc := 11) (pc' := 16) d24_11 (XT.i0_ne_t h2) j_11_5 ?_
    refine go_aloadN (pc := 16) d24_16 rfl (go_getA (pc := 17) fa_17 hm_24 d24_17 rfl (go_iloadN (pc := 20) d24_20 rfl (go_aloadN (pc := 21) d24_21 rfl (go_getA (pc := 22) fa_17 hm_24 d24_22 rfl (go_iloadN (pc := 25) d24_25 rfl ?_)))))
    obtain ⟨a26, e3, hf⟩ := Option.bind_eq_some_iff.mp hf
    refine go_iaload (pc := 26) (q := 2) ar_2 rfl e3 d24_26 ?_
    refine go_iconst (pc := 27) d24_27 ci_1 (go_isub (pc := 28) d24_28 ?_)
    obtain ⟨a29, e4, hf⟩ := Option.bind_eq_some_iff.mp hf
    refine go_iastore (pc := 29) (q := 2) ar_2 rfl hn_24 e4 d24_29 ?_
    refine go_iloadN (pc := 30) d24_30 rfl ?_
    cases hf
    exact go_iret (pc := 31) rfl d24_31
theorem c_k_detachPage (v1 : Int32) (s : S) (o : Int32 × S) (hf : k_detachPage v1 s = some o) : Call PP m24 [.ref 1, .int v1] (none, [(8, s)]) (some (.int o.1), (none, [(8, o.2)])) := call_of_go pl_0 rfl (fun h => nomatch h) (k_detachPage_ok v1 s   _ hf)
set_option maxRecDepth 65536 in
set_option maxHeartbeats 4000000 in
theorem k_freeFrame_ok  : ∀ (v1 : Int32) (s : S)  (o : S), k_freeFrame v1 s = some o → Go PP m25 0 [.val (.ref 1), .val (.int v1)] [] (none, [(8, s)]) (none, (none, [(8, o)])) := by
  intro v1 s o hf
  unfold k_freeFrame at hf
  refine go_aloadN (pc := 0) d25_0 rfl (go_iloadN (pc := 1) d25_1 rfl ?_)
  refine go_priv (pc := 2) (i := 0) (as := [.int v1]) (rest := []) (w' := (none, [(8, s)])) lk_0_62 pd_6 rfl oid_0 rfl rfl rfl rfl rfl rfl ⟨rfl, rfl, rfl, rfl, rfl⟩ d25_2 (c_k_frameInRange v1 s) ?_
  by_cases h1 : (k_frameInRange v1 s) = 0
  · replace hf := (if_pos h1).symm.trans hf
    refine go_ifN (pc := 5) d25_5 (XT.i0_ne_f h1) ?_
    cases hf
    exact go_ret (pc := 8) rfl d25_8
  · replace hf := (if_neg h1).symm.trans hf
    refine go_ifY (pc := 5) (pc' := 9) d25_5 (XT.i0_ne_t h1) j_5_4 ?_
    refine go_aloadN (pc := 9) d25_9 rfl (go_getA (pc := 10) fa_13 hm_25 d25_10 rfl (go_iloadN (pc := 13) d25_13 rfl (go_iconst (pc := 14) d25_14 ci_0 ?_)))
    obtain ⟨a15, e2, hf⟩ := Option.bind_eq_some_iff.mp hf
    refine go_iastore (pc := 15) (q := 1) ar_1 rfl hn_25 e2 d25_15 ?_
    refine go_aloadN (pc := 16) d25_16 rfl (go_getA (pc := 17) fa_17 hm_25 d25_17 rfl (go_iloadN (pc := 20) d25_20 rfl (go_iconst (pc := 21) d25_21 ci_0 ?_)))
    obtain ⟨a22, e3, hf⟩ := Option.bind_eq_some_iff.mp hf
    refine go_iastore (pc := 22) (q := 2) ar_2 rfl hn_25 e3 d25_22 ?_
    refine go_aloadN (pc := 23) d25_23 rfl (go_getA (pc := 24) fa_23 hm_25 d25_24 rfl (go_iloadN (pc := 27) d25_27 rfl (go_iconst (pc := 28) d25_28 ci_m1 ?_)))
    obtain ⟨a29, e4, hf⟩ := Option.bind_eq_some_iff.mp hf
    refine go_iastore (pc := 29) (q := 4) ar_4 rfl hn_25 e4 d25_29 ?_
    refine go_aloadN (pc := 30) d25_30 rfl (go_iloadN (pc := 31) d25_31 rfl (go_iconst (pc := 32) d25_32 ci_0 ?_))
    obtain ⟨r33, e5, hf⟩ := Option.bind_eq_some_iff.mp hf
    refine go_priv (pc := 33) (i := 0) (as := [.int v1, .int (0 : Int32)]) (rest := []) (w' := (none, [(8, r33)])) lk_0_69 pd_15 rfl oid_0 rfl rfl rfl rfl rfl rfl ⟨rfl, rfl, rfl, rfl, rfl⟩ d25_33 (c_k_enterState v1 (0 : Int32) (sA (sA (sA s 1 a15) 2 a22) 4 a29) _ e5) ?_
    cases hf
    exact go_ret (pc := 36) rfl d25_36
theorem c_k_freeFrame (v1 : Int32) (s : S) (o : S) (hf : k_freeFrame v1 s = some o) : Call PP m25 [.ref 1, .int v1] (none, [(8, s)]) (none, (none, [(8, o)])) := call_of_go pl_0 rfl (fun _ => rfl) (k_freeFrame_ok v1 s   _ hf)
set_option maxRecDepth 65536 in
set_option maxHeartbeats 4000000 in
theorem k_unmap_ok  : ∀ (v1 : Int32) (v2 : Int32) (s : S)  (o : Int32 × S), k_unmap v1 v2 s = some o → Go PP m26 0 [.val (.ref 1), .val (.int v1), .val (.int v2), .unset, .unset] [] (none, [(8, s)]) (some (.int o.1), (none, [(8, o.2)])) := by
  intro v1 v2 s o hf
  unfold k_unmap at hf
  refine go_aloadN (pc := 0) d26_0 rfl (go_iloadN (pc := 1) d26_1 rfl (go_iloadN (pc := 2) d26_2 rfl ?_))
  refine go_priv (pc := 3) (i := 0) (as := [.int v1, .int v2]) (rest := []) (w' := (none, [(8, s)])) lk_0_76 pd_4 rfl oid_0 rfl rfl rfl rfl rfl rfl ⟨rfl, rfl, rfl, rfl, rfl⟩ d26_3 (c_k_pageInRange v1 v2 s) ?_
  by_cases h1 : (k_pageInRange v1 v2 s) = 0
  · replace hf := (if_pos h1).symm.trans hf
    refine go_ifN (pc := 6) d26_6 (XT.i0_ne_f h1) ?_
    refine go_iconst (pc := 9) d26_9 ci_m1 ?_
    cases hf
    exact go_iret (pc := 10) rfl d26_10
  · replace hf := (if_neg h1).symm.trans hf
    refine go_ifY (pc := 6) (pc' := 11) d26_6 (XT.i0_ne_t h1) j_6_5 ?_
    refine go_aloadN (pc := 11) d26_11 rfl (go_iloadN (pc := 12) d26_12 rfl (go_iloadN (pc := 13) d26_13 rfl ?_))
    refine go_priv (pc := 14) (i := 0) (as := [.int v1, .int v2]) (rest := []) (w' := (none, [(8, s)])) lk_0_66 pd_5 rfl oid_0 rfl rfl rfl rfl rfl rfl ⟨rfl, rfl, rfl, rfl, rfl⟩ d26_14 (c_k_slotOf v1 v2 s) ?_
    refine go_istoreN (pc := 17) (L' := [.val (.ref 1), .val (.int v1), .val (.int v2), .val (.int (k_slotOf v1 v2)), .unset]) d26_17 rfl (go_aloadN (pc := 18) d26_18 rfl (go_getA (pc := 19) fa_20 hm_26 d26_19 rfl (go_iloadN (pc := 22) d26_22 rfl ?_)))
    obtain ⟨a23, e2, hf⟩ := Option.bind_eq_some_iff.mp hf
    refine go_iaload (pc := 23) (q := 3) ar_3 rfl e2 d26_23 ?_
    by_cases h3 : a23 < 0
    · replace hf := (if_pos h3).symm.trans hf
      refine go_ifN (pc := 24) d26_24 (XT.i0_ge_f h3) ?_
      refine go_bipush (pc := 27) d26_27 cb_m3 ?_
      cases hf
      exact go_iret (pc := 29) rfl d26_29
    · replace hf := (if_neg h3).symm.trans hf
      refine go_ifY (pc := 24) (pc' := 30) d26_24 (XT.i0_ge_t h3) j_24_6 ?_
      refine go_aloadN (pc := 30) d26_30 rfl (go_iloadN (pc := 31) d26_31 rfl ?_)
      obtain ⟨r32, e4, hf⟩ := Option.bind_eq_some_iff.mp hf
      refine go_priv (pc := 32) (i := 0) (as := [.int (k_slotOf v1 v2)]) (rest := []) (w' := (none, [(8, r32.2)])) lk_0_80 pd_24 rfl oid_0 rfl rfl rfl rfl rfl rfl ⟨rfl, rfl, rfl, rfl, rfl⟩ d26_32 (c_k_detachPage (k_slotOf v1 v2) s _ e4) ?_
      refine go_istore (pc := 35) (L' := [.val (.ref 1), .val (.int v1), .val (.int v2), .val (.int (k_slotOf v1 v2)), .val (.int r32.1)]) d26_35 rfl (go_aloadN (pc := 37) d26_37 rfl (go_iload (pc := 38) d26_38 rfl ?_))
      refine go_priv (pc := 40) (i := 0) (as := [.int r32.1]) (rest := []) (w' := (none, [(8, r32.2)])) lk_0_62 pd_6 rfl oid_0 rfl rfl rfl rfl rfl rfl ⟨rfl, rfl, rfl, rfl, rfl⟩ d26_40 (c_k_frameInRange r32.1 r32.2) ?_
      by_cases h5 : (k_frameInRange r32.1 r32.2) = 0
      · replace hf := (if_pos h5).symm.trans hf
        refine go_ifN (pc := 43) d26_43 (XT.i0_ne_f h5) ?_
        refine go_bipush (pc := 46) d26_46 cb_m3 ?_
        cases hf
        exact go_iret (pc := 48) rfl d26_48
      · replace hf := (if_neg h5).symm.trans hf
        refine go_ifY (pc := 43) (pc' := 49) d26_43 (XT.i0_ne_t h5) j_43_6 ?_
        refine go_aloadN (pc := 49) d26_49 rfl (go_getA (pc := 50) fa_17 hm_26 d26_50 rfl (go_iload (pc := 53) d26_53 rfl ?_))
        obtain ⟨a55, e6, hf⟩ := Option.bind_eq_some_iff.mp hf
        refine go_iaload (pc := 55) (q := 2) ar_2 rfl e6 d26_55 ?_
        by_cases h7 : 0 < a55
        · replace hf := (if_pos h7).symm.trans hf
          refine go_ifY (pc := 56) (pc' := 65) d26_56 (XT.i0_gt_t h7) j_56_9 ?_
          refine go_iload (pc := 65) d26_65 rfl ?_
          cases hf
          exact go_iret (pc := 67) rfl d26_67
        · replace hf := (if_neg h7).symm.trans hf
          refine go_ifN (pc := 56) d26_56 (XT.i0_gt_f h7) ?_
          refine go_aloadN (pc := 59) d26_59 rfl (go_iload (pc := 60) d26_60 rfl ?_)
          obtain ⟨r62, e8, hf⟩ := Option.bind_eq_some_iff.mp hf
          refine go_priv (pc := 62) (i := 0) (as := [.int r32.1]) (rest := []) (w' := (none, [(8, r62)])) lk_0_84 pd_25 rfl oid_0 rfl rfl rfl rfl rfl rfl ⟨rfl, rfl, rfl, rfl, rfl⟩ d26_62 (c_k_freeFrame r32.1 r32.2 _ e8) ?_
          refine go_iload (pc := 65) d26_65 rfl ?_
          cases hf
          exact go_iret (pc := 67) rfl d26_67
theorem c_k_unmap (v1 : Int32) (v2 : Int32) (s : S) (o : Int32 × S) (hf : k_unmap v1 v2 s = some o) : Call PP m26 [.ref 1, .int v1, .int v2] (none, [(8, s)]) (some (.int o.1), (none, [(8, o.2)])) := call_of_go pl_0 rfl (fun h => nomatch h) (k_unmap_ok v1 v2 s   _ hf)
set_option maxRecDepth 65536 in
set_option maxHeartbeats 4000000 in
theorem k_write_ok  : ∀ (v1 : Int32) (v2 : Int32) (v3 : Int32) (s : S)  (o : Int32 × S), k_write v1 v2 v3 s = some o → Go PP m27 0 [.val (.ref 1), .val (.int v1), .val (.int v2), .val (.int v3), .unset] [] (none, [(8, s)]) (some (.int o.1), (none, [(8, o.2)])) := by
  intro v1 v2 v3 s o hf
  unfold k_write at hf
  refine go_aloadN (pc := 0) d27_0 rfl (go_iloadN (pc := 1) d27_1 rfl (go_iloadN (pc := 2) d27_2 rfl ?_))
  obtain ⟨r3, e1, hf⟩ := Option.bind_eq_some_iff.mp hf
  refine go_priv (pc := 3) (i := 0) (as := [.int v1, .int v2]) (rest := []) (w' := (none, [(8, s)])) lk_0_88 pd_7 rfl oid_0 rfl rfl rfl rfl rfl rfl ⟨rfl, rfl, rfl, rfl, rfl⟩ d27_3 (c_k_mappedFrame v1 v2 s _ e1) ?_
  refine go_istore (pc := 6) (L' := [.val (.ref 1), .val (.int v1), .val (.int v2), .val (.int v3), .val (.int r3)]) d27_6 rfl (go_iload (pc := 8) d27_8 rfl ?_)
  by_cases h2 : r3 < 0
  · replace hf := (if_pos h2).symm.trans hf
    refine go_ifN (pc := 10) d27_10 (XT.i0_ge_f h2) ?_
    refine go_iconst (pc := 13) d27_13 ci_0 ?_
    cases hf
    exact go_zret (pc := 14) rfl d27_14 (show (0 : Int32) = nar .boolean (0 : Int32) by decide)
  · replace hf := (if_neg h2).symm.trans hf
    refine go_ifY (pc := 10) (pc' := 15) d27_10 (XT.i0_ge_t h2) j_10_5 ?_
    refine go_aloadN (pc := 15) d27_15 rfl (go_getA (pc := 16) fa_13 hm_27 d27_16 rfl (go_iload (pc := 19) d27_19 rfl (go_iloadN (pc := 21) d27_21 rfl ?_)))
    obtain ⟨a22, e3, hf⟩ := Option.bind_eq_some_iff.mp hf
    refine go_iastore (pc := 22) (q := 1) ar_1 rfl hn_27 e3 d27_22 ?_
    refine go_iconst (pc := 23) d27_23 ci_1 ?_
    cases hf
    exact go_zret (pc := 24) rfl d27_24 (show (1 : Int32) = nar .boolean (1 : Int32) by decide)
theorem c_k_write (v1 : Int32) (v2 : Int32) (v3 : Int32) (s : S) (o : Int32 × S) (hf : k_write v1 v2 v3 s = some o) : Call PP m27 [.ref 1, .int v1, .int v2, .int v3] (none, [(8, s)]) (some (.int o.1), (none, [(8, o.2)])) := call_of_go pl_0 rfl (fun h => nomatch h) (k_write_ok v1 v2 v3 s   _ hf)
set_option maxRecDepth 65536 in
set_option maxHeartbeats 4000000 in
theorem k_pin_ok  : ∀ (v1 : Int32) (s : S)  (o : Int32 × S), k_pin v1 s = some o → Go PP m28 0 [.val (.ref 1), .val (.int v1)] [] (none, [(8, s)]) (some (.int o.1), (none, [(8, o.2)])) := by
  intro v1 s o hf
  unfold k_pin at hf
  refine go_aloadN (pc := 0) d28_0 rfl (go_iloadN (pc := 1) d28_1 rfl ?_)
  refine go_priv (pc := 2) (i := 0) (as := [.int v1]) (rest := []) (w' := (none, [(8, s)])) lk_0_62 pd_6 rfl oid_0 rfl rfl rfl rfl rfl rfl ⟨rfl, rfl, rfl, rfl, rfl⟩ d28_2 (c_k_frameInRange v1 s) ?_
  by_cases h1 : (k_frameInRange v1 s) = 0
  · replace hf := (if_pos h1).symm.trans hf
    refine go_ifN (pc := 5) d28_5 (XT.i0_ne_f h1) ?_
    refine go_iconst (pc := 8) d28_8 ci_0 ?_
    cases hf
    exact go_zret (pc := 9) rfl d28_9 (show (0 : Int32) = nar .boolean (0 : Int32) by decide)
  · replace hf := (if_neg h1).symm.trans hf
    refine go_ifY (pc := 5) (pc' := 10) d28_5 (XT.i0_ne_t h1) j_5_5 ?_
    refine go_aloadN (pc := 10) d28_10 rfl (go_getA (pc := 11) fa_7 hm_28 d28_11 rfl (go_iloadN (pc := 14) d28_14 rfl ?_))
    obtain ⟨a15, e2, hf⟩ := Option.bind_eq_some_iff.mp hf
    refine go_baload (pc := 15) (q := 0) ar_0 (by decide) rfl e2 d28_15 ?_
    refine go_iconst (pc := 16) d28_16 ci_1 ?_
    by_cases h3 : a15 = (1 : Int32)
    · replace hf := (if_pos h3).symm.trans hf
      refine go_icY (pc := 17) (pc' := 22) d28_17 (XT.ii_eq_t h3) j_17_5 ?_
      refine go_aloadN (pc := 22) d28_22 rfl (go_iloadN (pc := 23) d28_23 rfl (go_iconst (pc := 24) d28_24 ci_2 ?_))
      obtain ⟨r25, e4, hf⟩ := Option.bind_eq_some_iff.mp hf
      refine go_priv (pc := 25) (i := 0) (as := [.int v1, .int (2 : Int32)]) (rest := []) (w' := (none, [(8, r25)])) lk_0_69 pd_15 rfl oid_0 rfl rfl rfl rfl rfl rfl ⟨rfl, rfl, rfl, rfl, rfl⟩ d28_25 (c_k_enterState v1 (2 : Int32) s _ e4) ?_
      refine go_iconst (pc := 28) d28_28 ci_1 ?_
      cases hf
      exact go_zret (pc := 29) rfl d28_29 (show (1 : Int32) = nar .boolean (1 : Int32) by decide)
    · replace hf := (if_neg h3).symm.trans hf
      refine go_icN (pc := 17) d28_17 (XT.ii_eq_f h3) ?_
      refine go_iconst (pc := 20) d28_20 ci_0 ?_
      cases hf
      exact go_zret (pc := 21) rfl d28_21 (show (0 : Int32) = nar .boolean (0 : Int32) by decide)
theorem c_k_pin (v1 : Int32) (s : S) (o : Int32 × S) (hf : k_pin v1 s = some o) : Call PP m28 [.ref 1, .int v1] (none, [(8, s)]) (some (.int o.1), (none, [(8, o.2)])) := call_of_go pl_0 rfl (fun h => nomatch h) (k_pin_ok v1 s   _ hf)
set_option maxRecDepth 65536 in
set_option maxHeartbeats 4000000 in
theorem k_unpin_ok  : ∀ (v1 : Int32) (s : S)  (o : Int32 × S), k_unpin v1 s = some o → Go PP m29 0 [.val (.ref 1), .val (.int v1)] [] (none, [(8, s)]) (some (.int o.1), (none, [(8, o.2)])) := by
  intro v1 s o hf
  unfold k_unpin at hf
  refine go_aloadN (pc := 0) d29_0 rfl (go_iloadN (pc := 1) d29_1 rfl ?_)
  refine go_priv (pc := 2) (i := 0) (as := [.int v1]) (rest := []) (w' := (none, [(8, s)])) lk_0_62 pd_6 rfl oid_0 rfl rfl rfl rfl rfl rfl ⟨rfl, rfl, rfl, rfl, rfl⟩ d29_2 (c_k_frameInRange v1 s) ?_
  by_cases h1 : (k_frameInRange v1 s) = 0
  · replace hf := (if_pos h1).symm.trans hf
    refine go_ifN (pc := 5) d29_5 (XT.i0_ne_f h1) ?_
    refine go_iconst (pc := 8) d29_8 ci_0 ?_
    cases hf
    exact go_zret (pc := 9) rfl d29_9 (show (0 : Int32) = nar .boolean (0 : Int32) by decide)
  · replace hf := (if_neg h1).symm.trans hf
    refine go_ifY (pc := 5) (pc' := 10) d29_5 (XT.i0_ne_t h1) j_5_5 ?_
    refine go_aloadN (pc := 10) d29_10 rfl (go_getA (pc := 11) fa_7 hm_29 d29_11 rfl (go_iloadN (pc := 14) d29_14 rfl ?_))
    obtain ⟨a15, e2, hf⟩ := Option.bind_eq_some_iff.mp hf
    refine go_baload (pc := 15) (q := 0) ar_0 (by decide) rfl e2 d29_15 ?_
    refine go_iconst (pc := 16) d29_16 ci_2 ?_
    by_cases h3 : a15 = (2 : Int32)
    · replace hf := (if_pos h3).symm.trans hf
      refine go_icY (pc := 17) (pc' := 22) d29_17 (XT.ii_eq_t h3) j_17_5 ?_
      refine go_aloadN (pc := 22) d29_22 rfl (go_iloadN (pc := 23) d29_23 rfl (go_iconst (pc := 24) d29_24 ci_1 ?_))
      obtain ⟨r25, e4, hf⟩ := Option.bind_eq_some_iff.mp hf
      refine go_priv (pc := 25) (i := 0) (as := [.int v1, .int (1 : Int32)]) (rest := []) (w' := (none, [(8, r25)])) lk_0_69 pd_15 rfl oid_0 rfl rfl rfl rfl rfl rfl ⟨rfl, rfl, rfl, rfl, rfl⟩ d29_25 (c_k_enterState v1 (1 : Int32) s _ e4) ?_
      refine go_iconst (pc := 28) d29_28 ci_1 ?_
      cases hf
      exact go_zret (pc := 29) rfl d29_29 (show (1 : Int32) = nar .boolean (1 : Int32) by decide)
    · replace hf := (if_neg h3).symm.trans hf
      refine go_icN (pc := 17) d29_17 (XT.ii_eq_f h3) ?_
      refine go_iconst (pc := 20) d29_20 ci_0 ?_
      cases hf
      exact go_zret (pc := 21) rfl d29_21 (show (0 : Int32) = nar .boolean (0 : Int32) by decide)
theorem c_k_unpin (v1 : Int32) (s : S) (o : Int32 × S) (hf : k_unpin v1 s = some o) : Call PP m29 [.ref 1, .int v1] (none, [(8, s)]) (some (.int o.1), (none, [(8, o.2)])) := call_of_go pl_0 rfl (fun h => nomatch h) (k_unpin_ok v1 s   _ hf)
set_option maxRecDepth 65536 in
set_option maxHeartbeats 4000000 in
theorem k_alignMask_ok  {s : S} : ∀ (v1 : Int32)   (o : Int64), k_alignMask v1 = o → Go PP m30 0 [.val (.ref 1), .val (.int v1)] [] (none, [(8, s)]) (some (.long o), (none, [(8, s)])) := by
  intro v1 o hf
  unfold k_alignMask at hf
  refine go_iloadN (pc := 0) d30_0 rfl ?_
  by_cases h1 : v1 = 0
  · replace hf := (if_pos h1).symm.trans hf
    refine go_ifN (pc := 1) d30_1 (XT.i0_ne_f h1) ?_
    refine go_ldc2 (pc := 4) (u := (-1 : Int64)) d30_4 (List.mem_of_getElem? (i := 159) rfl) ?_
    cases hf
    exact go_lret (pc := 7) rfl d30_7
  · replace hf := (if_neg h1).symm.trans hf
    refine go_ifY (pc := 1) (pc' := 8) d30_1 (XT.i0_ne_t h1) j_1_7 ?_
    refine go_iloadN (pc := 8) d30_8 rfl (go_iconst (pc := 9) d30_9 ci_1 ?_)
    by_cases h2 : v1 = (1 : Int32)
    · replace hf := (if_pos h2).symm.trans hf
      refine go_icN (pc := 10) d30_10 (XT.ii_ne_f h2) ?_
      refine go_ldc2 (pc := 13) (u := (6148914691236517205 : Int64)) d30_13 (List.mem_of_getElem? (i := 108) rfl) ?_
      cases hf
      exact go_lret (pc := 16) rfl d30_16
    · replace hf := (if_neg h2).symm.trans hf
      refine go_icY (pc := 10) (pc' := 17) d30_10 (XT.ii_ne_t h2) j_10_7 ?_
      refine go_iloadN (pc := 17) d30_17 rfl (go_iconst (pc := 18) d30_18 ci_2 ?_)
      by_cases h3 : v1 = (2 : Int32)
      · replace hf := (if_pos h3).symm.trans hf
        refine go_icN (pc := 19) d30_19 (XT.ii_ne_f h3) ?_
        refine go_ldc2 (pc := 22) (u := (1229782938247303441 : Int64)) d30_22 (List.mem_of_getElem? (i := 125) rfl) ?_
        cases hf
        exact go_lret (pc := 25) rfl d30_25
      · replace hf := (if_neg h3).symm.trans hf
        refine go_icY (pc := 19) (pc' := 26) d30_19 (XT.ii_ne_t h3) j_19_7 ?_
        refine go_iloadN (pc := 26) d30_26 rfl (go_iconst (pc := 27) d30_27 ci_3 ?_)
        by_cases h4 : v1 = (3 : Int32)
        · replace hf := (if_pos h4).symm.trans hf
          refine go_icN (pc := 28) d30_28 (XT.ii_ne_f h4) ?_
          refine go_ldc2 (pc := 31) (u := (72340172838076673 : Int64)) d30_31 (List.mem_of_getElem? (i := 111) rfl) ?_
          cases hf
          exact go_lret (pc := 34) rfl d30_34
        · replace hf := (if_neg h4).symm.trans hf
          refine go_icY (pc := 28) (pc' := 35) d30_28 (XT.ii_ne_t h4) j_28_7 ?_
          refine go_iloadN (pc := 35) d30_35 rfl (go_iconst (pc := 36) d30_36 ci_4 ?_)
          by_cases h5 : v1 = (4 : Int32)
          · replace hf := (if_pos h5).symm.trans hf
            refine go_icN (pc := 37) d30_37 (XT.ii_ne_f h5) ?_
            refine go_ldc2 (pc := 40) (u := (281479271743489 : Int64)) d30_40 (List.mem_of_getElem? (i := 126) rfl) ?_
            cases hf
            exact go_lret (pc := 43) rfl d30_43
          · replace hf := (if_neg h5).symm.trans hf
            refine go_icY (pc := 37) (pc' := 44) d30_37 (XT.ii_ne_t h5) j_37_7 ?_
            refine go_iloadN (pc := 44) d30_44 rfl (go_iconst (pc := 45) d30_45 ci_5 ?_)
            by_cases h6 : v1 = (5 : Int32)
            · replace hf := (if_pos h6).symm.trans hf
              refine go_icN (pc := 46) d30_46 (XT.ii_ne_f h6) ?_
              refine go_ldc2 (pc := 49) (u := (4294967297 : Int64)) d30_49 (List.mem_of_getElem? (i := 127) rfl) ?_
              cases hf
              exact go_lret (pc := 52) rfl d30_52
            · replace hf := (if_neg h6).symm.trans hf
              refine go_icY (pc := 46) (pc' := 53) d30_46 (XT.ii_ne_t h6) j_46_7 ?_
              refine go_iloadN (pc := 53) d30_53 rfl (go_bipush (pc := 54) d30_54 cb_6 ?_)
              by_cases h7 : v1 = (6 : Int32)
              · replace hf := (if_pos h7).symm.trans hf
                refine go_icN (pc := 56) d30_56 (XT.ii_ne_f h7) ?_
                refine go_lconst (pc := 59) d30_59 cl_1 ?_
                cases hf
                exact go_lret (pc := 60) rfl d30_60
              · replace hf := (if_neg h7).symm.trans hf
                refine go_icY (pc := 56) (pc' := 61) d30_56 (XT.ii_ne_t h7) j_56_5 ?_
                refine go_lconst (pc := 61) d30_61 cl_0 ?_
                cases hf
                exact go_lret (pc := 62) rfl d30_62
theorem c_k_alignMask (v1 : Int32) (s : S) : Call PP m30 [.ref 1, .int v1] (none, [(8, s)]) (some (.long (k_alignMask v1)), (none, [(8, s)])) := call_of_go pl_0 rfl (fun h => nomatch h) (k_alignMask_ok v1   _ rfl)
set_option maxRecDepth 65536 in
set_option maxHeartbeats 4000000 in
theorem k_refreshRuns_65_ok  : ∀  (s : S) (x1 : Slot) (x2 : Slot) (x3 : Slot) (x4 : Slot) (x5 : Slot) (x6 : Slot) (hx1 : k2 x1 x2) (hx3 : k1 x3) (hx4 : k1 x4) (hx5 : k2 x5 x6) (o : S), k_refreshRuns_65 s = some o → Go PP m31 65 [.val (.ref 1), x1, x2, x3, x4, x5, x6] [] (none, [(8, s)]) (none, (none, [(8, o)])) := by
  intro s x1 x2 x3 x4 x5 x6 hx1 hx3 hx4 hx5 o hf
  unfold k_refreshRuns_65 at hf
  refine go_aloadN (pc := 65) d31_65 rfl (go_iconst (pc := 66) d31_66 ci_0 (go_putZ (pc := 67) fs_141 hm_31 (wr_6 _) hn_31 (by decide) d31_67 ?_))
  cases hf
  exact go_ret (pc := 70) rfl d31_70
set_option maxRecDepth 65536 in
set_option maxHeartbeats 4000000 in
theorem k_refreshRuns_22_ok  : ∀ (n : Nat) (v1 : Int64) (v3 : Int32) (s : S) (x4 : Slot) (x5 : Slot) (x6 : Slot) (hx4 : k1 x4) (hx5 : k2 x5 x6) (o : S), k_refreshRuns_22 n v1 v3 s = some o → Go PP m31 22 [.val (.ref 1), .val (.long v1), .second, .val (.int v3), x4, x5, x6] [] (none, [(8, s)]) (none, (none, [(8, o)])) := by
  intro n
  induction n with
  | zero => intro v1 v3 s x4 x5 x6 hx4 hx5 o hf; exact nomatch hf
  | succ n ih =>
    intro v1 v3 s x4 x5 x6 hx4 hx5 o hf
    unfold k_refreshRuns_22 at hf
    refine go_iloadN (pc := 22) d31_22 rfl (go_bipush (pc := 23) d31_23 cb_6 ?_)
    by_cases h1 : (6 : Int32) < v3
    · replace hf := (if_pos h1).symm.trans hf
      refine go_icY (pc := 25) (pc' := 65) d31_25 (XT.ii_gt_t h1) j_25_40 ?_
      exact k_refreshRuns_65_ok s (.val (.long v1)) .second (.val (.int v3)) x4 x5 x6 (Or.inr ⟨_, rfl, rfl⟩) (Or.inr ⟨_, rfl, rfl⟩) hx4 hx5 _ hf
    · replace hf := (if_neg h1).symm.trans hf
      refine go_icN (pc := 25) d31_25 (XT.ii_gt_f h1) ?_
      refine go_iconst (pc := 28) d31_28 ci_1 (go_iloadN (pc := 29) d31_29 rfl (go_iconst (pc := 30) d31_30 ci_1 (go_isub (pc := 31) d31_31 (go_ishl (pc := 32) d31_32 (go_istore (pc := 33) (L' := [.val (.ref 1), .val (.long v1), .second, .val (.int v3), .val (.int ((1 : Int32) <<< ((v3 - (1 : Int32)) &&& 31))), x5, x6]) d31_33 (stx rfl hx4 rfl) (go_aloadN (pc := 35) d31_35 rfl (go_iloadN (pc := 36) d31_36 rfl ?_)))))))
      refine go_priv (pc := 37) (i := 0) (as := [.int v3]) (rest := []) (w' := (none, [(8, s)])) lk_0_159 pd_30 rfl oid_0 rfl rfl rfl rfl rfl rfl ⟨rfl, rfl, rfl, rfl, rfl⟩ d31_37 (c_k_alignMask v3 s) ?_
      refine go_lstore (pc := 40) (L' := [.val (.ref 1), .val (.long v1), .second, .val (.int v3), .val (.int ((1 : Int32) <<< ((v3 - (1 : Int32)) &&& 31))), .val (.long (k_alignMask v3)), .second]) d31_40 (stx2 rfl rfl hx5) (go_lloadN (pc := 42) d31_42 rfl (go_lloadN (pc := 43) d31_43 rfl (go_iload (pc := 44) d31_44 rfl (go_lushr (pc := 46) d31_46 (go_land (pc := 47) d31_47 (go_lload (pc := 48) d31_48 rfl (go_land (pc := 50) d31_50 ?_)))))))
      refine go_lstoreN (pc := 51) (L' := [.val (.ref 1), .val (.long ((v1 &&& (XT.ushrL v1 ((1 : Int32) <<< ((v3 - (1 : Int32)) &&& 31)))) &&& (k_alignMask v3))), .second, .val (.int v3), .val (.int ((1 : Int32) <<< ((v3 - (1 : Int32)) &&& 31))), .val (.long (k_alignMask v3)), .second]) d31_51 rfl (go_aloadN (pc := 52) d31_52 rfl (go_getA (pc := 53) fa_32 hm_31 d31_53 rfl (go_iloadN (pc := 56) d31_56 rfl (go_lloadN (pc := 57) d31_57 rfl ?_))))
      obtain ⟨a58, e2, hf⟩ := Option.bind_eq_some_iff.mp hf
      refine go_lastore (pc := 58) (q := 7) ar_7 rfl hn_31 e2 d31_58 ?_
      refine go_iinc (pc := 59) (L' := [.val (.ref 1), .val (.long ((v1 &&& (XT.ushrL v1 ((1 : Int32) <<< ((v3 - (1 : Int32)) &&& 31)))) &&& (k_alignMask v3))), .second, .val (.int (v3 + (1 : Int32))), .val (.int ((1 : Int32) <<< ((v3 - (1 : Int32)) &&& 31))), .val (.long (k_alignMask v3)), .second]) d31_59 rfl ci_1 rfl (go_goto (pc := 62) (pc' := 22) d31_62 j_62_m40 ?_)
      exact ih ((v1 &&& (XT.ushrL v1 ((1 : Int32) <<< ((v3 - (1 : Int32)) &&& 31)))) &&& (k_alignMask v3)) (v3 + (1 : Int32)) (sB s 7 a58) (.val (.int ((1 : Int32) <<< ((v3 - (1 : Int32)) &&& 31)))) (.val (.long (k_alignMask v3))) .second (Or.inr ⟨_, rfl, rfl⟩) (Or.inr ⟨_, rfl, rfl⟩) _ hf
set_option maxRecDepth 65536 in
set_option maxHeartbeats 4000000 in
theorem k_refreshRuns_ok  : ∀  (s : S)  (o : S), k_refreshRuns s = some o → Go PP m31 0 [.val (.ref 1), .unset, .unset, .unset, .unset, .unset, .unset] [] (none, [(8, s)]) (none, (none, [(8, o)])) := by
  intro s o hf
  unfold k_refreshRuns at hf
  refine go_aloadN (pc := 0) d31_0 rfl (go_getZ (pc := 1) fs_141 hm_31 d31_1 ?_)
  by_cases h1 : (gI s 6) = 0
  · replace hf := (if_pos h1).symm.trans hf
    refine go_ifN (pc := 4) d31_4 (XT.i0_ne_f h1) ?_
    cases hf
    exact go_ret (pc := 7) rfl d31_7
  · replace hf := (if_neg h1).symm.trans hf
    refine go_ifY (pc := 4) (pc' := 8) d31_4 (XT.i0_ne_t h1) j_4_4 ?_
    refine go_aloadN (pc := 8) d31_8 rfl (go_getJ (pc := 9) fs_54 hm_31 d31_9 (go_lstoreN (pc := 12) (L' := [.val (.ref 1), .val (.long (gL s 2)), .second, .unset, .unset, .unset, .unset]) d31_12 rfl (go_aloadN (pc := 13) d31_13 rfl (go_getA (pc := 14) fa_32 hm_31 d31_14 rfl (go_iconst (pc := 17) d31_17 ci_0 (go_lloadN (pc := 18) d31_18 rfl ?_))))))
    obtain ⟨a19, e2, hf⟩ := Option.bind_eq_some_iff.mp hf
    refine go_lastore (pc := 19) (q := 7) ar_7 rfl hn_31 e2 d31_19 ?_
    refine go_iconst (pc := 20) d31_20 ci_1 (go_istoreN (pc := 21) (L' := [.val (.ref 1), .val (.long (gL s 2)), .second, .val (.int (1 : Int32)), .unset, .unset, .unset]) d31_21 rfl ?_)
    exact k_refreshRuns_22_ok BIG (gL s 2) (1 : Int32) (sB s 7 a19) .unset .unset .unset (Or.inl rfl) (Or.inl ⟨rfl, rfl⟩) _ hf
theorem c_k_refreshRuns (s : S) (o : S) (hf : k_refreshRuns s = some o) : Call PP m31 [.ref 1] (none, [(8, s)]) (none, (none, [(8, o)])) := call_of_go pl_0 rfl (fun _ => rfl) (k_refreshRuns_ok s   _ hf)
set_option maxRecDepth 65536 in
set_option maxHeartbeats 4000000 in
theorem k_freeRunsOfOrder_10_ok  : ∀  (s : S) (x1 : Slot) (hx1 : k1 x1) (o : Int64 × S), k_freeRunsOfOrder_10 s = some o → Go PP m32 10 [.val (.ref 1), x1] [] (none, [(8, s)]) (some (.long o.1), (none, [(8, o.2)])) := by
  intro s x1 hx1 o hf
  unfold k_freeRunsOfOrder_10 at hf
  refine go_lconst (pc := 10) d32_10 cl_0 ?_
  cases hf
  exact go_lret (pc := 11) rfl d32_11
set_option maxRecDepth 65536 in
set_option maxHeartbeats 4000000 in
theorem k_freeRunsOfOrder_ok  : ∀ (v1 : Int32) (s : S)  (o : Int64 × S), k_freeRunsOfOrder v1 s = some o → Go PP m32 0 [.val (.ref 1), .val (.int v1)] [] (none, [(8, s)]) (some (.long o.1), (none, [(8, o.2)])) := by
  intro v1 s o hf
  unfold k_freeRunsOfOrder at hf
  refine go_iloadN (pc := 0) d32_0 rfl ?_
  by_cases h1 : v1 < 0
  · replace hf := (if_pos h1).symm.trans hf
    refine go_ifY (pc := 1) (pc' := 10) d32_1 (XT.i0_lt_t h1) j_1_9 ?_
    exact k_freeRunsOfOrder_10_ok s (.val (.int v1)) (Or.inr ⟨_, rfl, rfl⟩) _ hf
  · replace hf := (if_neg h1).symm.trans hf
    refine go_ifN (pc := 1) d32_1 (XT.i0_lt_f h1) ?_
    refine go_iloadN (pc := 4) d32_4 rfl (go_bipush (pc := 5) d32_5 cb_6 ?_)
    by_cases h2 : (6 : Int32) < v1
    · replace hf := (if_pos h2).symm.trans hf
      refine go_icN (pc := 7) d32_7 (XT.ii_le_f h2) ?_
      exact k_freeRunsOfOrder_10_ok s (.val (.int v1)) (Or.inr ⟨_, rfl, rfl⟩) _ hf
    · replace hf := (if_neg h2).symm.trans hf
      refine go_icY (pc := 7) (pc' := 12) d32_7 (XT.ii_le_t h2) j_7_5 ?_
      refine go_aloadN (pc := 12) d32_12 rfl ?_
      obtain ⟨r13, e3, hf⟩ := Option.bind_eq_some_iff.mp hf
      refine go_priv (pc := 13) (i := 0) (as := []) (rest := []) (w' := (none, [(8, r13)])) lk_0_126 pd_31 rfl oid_0 rfl rfl rfl rfl rfl rfl ⟨rfl, rfl, rfl, rfl, rfl⟩ d32_13 (c_k_refreshRuns s _ e3) ?_
      refine go_aloadN (pc := 16) d32_16 rfl (go_getA (pc := 17) fa_32 hm_32 d32_17 rfl (go_iloadN (pc := 20) d32_20 rfl ?_))
      obtain ⟨a21, e4, hf⟩ := Option.bind_eq_some_iff.mp hf
      refine go_laload (pc := 21) (q := 7) ar_7 rfl e4 d32_21 ?_
      cases hf
      exact go_lret (pc := 22) rfl d32_22
theorem c_k_freeRunsOfOrder (v1 : Int32) (s : S) (o : Int64 × S) (hf : k_freeRunsOfOrder v1 s = some o) : Call PP m32 [.ref 1, .int v1] (none, [(8, s)]) (some (.long o.1), (none, [(8, o.2)])) := call_of_go pl_0 rfl (fun h => nomatch h) (k_freeRunsOfOrder_ok v1 s   _ hf)
set_option maxRecDepth 65536 in
set_option maxHeartbeats 4000000 in
theorem k_reserveFrame_ok  : ∀ (v1 : Int32) (s : S)  (o : S), k_reserveFrame v1 s = some o → Go PP m33 0 [.val (.ref 1), .val (.int v1)] [] (none, [(8, s)]) (none, (none, [(8, o)])) := by
  intro v1 s o hf
  unfold k_reserveFrame at hf
  refine go_aloadN (pc := 0) d33_0 rfl (go_iloadN (pc := 1) d33_1 rfl ?_)
  refine go_priv (pc := 2) (i := 0) (as := [.int v1]) (rest := []) (w' := (none, [(8, s)])) lk_0_62 pd_6 rfl oid_0 rfl rfl rfl rfl rfl rfl ⟨rfl, rfl, rfl, rfl, rfl⟩ d33_2 (c_k_frameInRange v1 s) ?_
  by_cases h1 : (k_frameInRange v1 s) = 0
  · replace hf := (if_pos h1).symm.trans hf
    refine go_ifN (pc := 5) d33_5 (XT.i0_ne_f h1) ?_
    cases hf
    exact go_ret (pc := 8) rfl d33_8
  · replace hf := (if_neg h1).symm.trans hf
    refine go_ifY (pc := 5) (pc' := 9) d33_5 (XT.i0_ne_t h1) j_5_4 ?_
    refine go_aloadN (pc := 9) d33_9 rfl (go_getA (pc := 10) fa_13 hm_33 d33_10 rfl (go_iloadN (pc := 13) d33_13 rfl (go_iconst (pc := 14) d33_14 ci_0 ?_)))
    obtain ⟨a15, e2, hf⟩ := Option.bind_eq_some_iff.mp hf
    refine go_iastore (pc := 15) (q := 1) ar_1 rfl hn_33 e2 d33_15 ?_
    refine go_aloadN (pc := 16) d33_16 rfl (go_getA (pc := 17) fa_17 hm_33 d33_17 rfl (go_iloadN (pc := 20) d33_20 rfl (go_iconst (pc := 21) d33_21 ci_0 ?_)))
    obtain ⟨a22, e3, hf⟩ := Option.bind_eq_some_iff.mp hf
    refine go_iastore (pc := 22) (q := 2) ar_2 rfl hn_33 e3 d33_22 ?_
    refine go_aloadN (pc := 23) d33_23 rfl (go_getA (pc := 24) fa_23 hm_33 d33_24 rfl (go_iloadN (pc := 27) d33_27 rfl (go_iconst (pc := 28) d33_28 ci_m1 ?_)))
    obtain ⟨a29, e4, hf⟩ := Option.bind_eq_some_iff.mp hf
    refine go_iastore (pc := 29) (q := 4) ar_4 rfl hn_33 e4 d33_29 ?_
    refine go_aloadN (pc := 30) d33_30 rfl (go_iloadN (pc := 31) d33_31 rfl (go_iconst (pc := 32) d33_32 ci_3 ?_))
    obtain ⟨r33, e5, hf⟩ := Option.bind_eq_some_iff.mp hf
    refine go_priv (pc := 33) (i := 0) (as := [.int v1, .int (3 : Int32)]) (rest := []) (w' := (none, [(8, r33)])) lk_0_69 pd_15 rfl oid_0 rfl rfl rfl rfl rfl rfl ⟨rfl, rfl, rfl, rfl, rfl⟩ d33_33 (c_k_enterState v1 (3 : Int32) (sA (sA (sA s 1 a15) 2 a22) 4 a29) _ e5) ?_
    cases hf
    exact go_ret (pc := 36) rfl d33_36
theorem c_k_reserveFrame (v1 : Int32) (s : S) (o : S) (hf : k_reserveFrame v1 s = some o) : Call PP m33 [.ref 1, .int v1] (none, [(8, s)]) (none, (none, [(8, o)])) := call_of_go pl_0 rfl (fun _ => rfl) (k_reserveFrame_ok v1 s   _ hf)
set_option maxRecDepth 65536 in
set_option maxHeartbeats 4000000 in
theorem k_reserveRun_7_ok  : ∀ (n : Nat) (v1 : Int32) (v3 : Int32) (v4 : Int32) (s : S) (x2 : Slot) (hx2 : k1 x2) (o : S), k_reserveRun_7 n v1 v3 v4 s = some o → Go PP m34 7 [.val (.ref 1), .val (.int v1), x2, .val (.int v3), .val (.int v4)] [] (none, [(8, s)]) (none, (none, [(8, o)])) := by
  intro n
  induction n with
  | zero => intro v1 v3 v4 s x2 hx2 o hf; exact nomatch hf
  | succ n ih =>
    intro v1 v3 v4 s x2 hx2 o hf
    unfold k_reserveRun_7 at hf
    refine go_iload (pc := 7) d34_7 rfl (go_iloadN (pc := 9) d34_9 rfl ?_)
    by_cases h1 : v4 < v3
    · replace hf := (if_pos h1).symm.trans hf
      refine go_icN (pc := 10) d34_10 (XT.ii_ge_f h1) ?_
      refine go_iload (pc := 13) d34_13 rfl (go_bipush (pc := 15) d34_15 cb_64 ?_)
      by_cases h2 : v4 < (64 : Int32)
      · replace hf := (if_pos h2).symm.trans hf
        refine go_icN (pc := 17) d34_17 (XT.ii_ge_f h2) ?_
        refine go_aloadN (pc := 20) d34_20 rfl (go_iloadN (pc := 21) d34_21 rfl (go_iload (pc := 22) d34_22 rfl (go_iadd (pc := 24) d34_24 ?_)))
        obtain ⟨r25, e3, hf⟩ := Option.bind_eq_some_iff.mp hf
        refine go_priv (pc := 25) (i := 0) (as := [.int (v1 + v4)]) (rest := []) (w' := (none, [(8, r25)])) lk_0_150 pd_33 rfl oid_0 rfl rfl rfl rfl rfl rfl ⟨rfl, rfl, rfl, rfl, rfl⟩ d34_25 (c_k_reserveFrame (v1 + v4) s _ e3) ?_
        refine go_iinc (pc := 28) (L' := [.val (.ref 1), .val (.int v1), x2, .val (.int v3), .val (.int (v4 + (1 : Int32)))]) d34_28 rfl ci_1 rfl (go_goto (pc := 31) (pc' := 7) d34_31 j_31_m24 ?_)
        exact ih v1 v3 (v4 + (1 : Int32)) r25 x2 hx2 _ hf
      · replace hf := (if_neg h2).symm.trans hf
        refine go_icY (pc := 17) (pc' := 34) d34_17 (XT.ii_ge_t h2) j_17_17 ?_
        cases hf
        exact go_ret (pc := 34) rfl d34_34
    · replace hf := (if_neg h1).symm.trans hf
      refine go_icY (pc := 10) (pc' := 34) d34_10 (XT.ii_ge_t h1) j_10_24 ?_
      cases hf
      exact go_ret (pc := 34) rfl d34_34
set_option maxRecDepth 65536 in
set_option maxHeartbeats 4000000 in
theorem k_reserveRun_ok  : ∀ (v1 : Int32) (v2 : Int32) (s : S)  (o : S), k_reserveRun v1 v2 s = some o → Go PP m34 0 [.val (.ref 1), .val (.int v1), .val (.int v2), .unset, .unset] [] (none, [(8, s)]) (none, (none, [(8, o)])) := by
  intro v1 v2 s o hf
  unfold k_reserveRun at hf
  refine go_iconst (pc := 0) d34_0 ci_1 (go_iloadN (pc := 1) d34_1 rfl (go_ishl (pc := 2) d34_2 (go_istoreN (pc := 3) (L' := [.val (.ref 1), .val (.int v1), .val (.int v2), .val (.int ((1 : Int32) <<< (v2 &&& 31))), .unset]) d34_3 rfl (go_iconst (pc := 4) d34_4 ci_0 (go_istore (pc := 5) (L' := [.val (.ref 1), .val (.int v1), .val (.int v2), .val (.int ((1 : Int32) <<< (v2 &&& 31))), .val (.int (0 : Int32))]) d34_5 rfl ?_)))))
  exact k_reserveRun_7_ok BIG v1 ((1 : Int32) <<< (v2 &&& 31)) (0 : Int32) s (.val (.int v2)) (Or.inr ⟨_, rfl, rfl⟩) _ hf
theorem c_k_reserveRun (v1 : Int32) (v2 : Int32) (s : S) (o : S) (hf : k_reserveRun v1 v2 s = some o) : Call PP m34 [.ref 1, .int v1, .int v2] (none, [(8, s)]) (none, (none, [(8, o)])) := call_of_go pl_0 rfl (fun _ => rfl) (k_reserveRun_ok v1 v2 s   _ hf)
set_option maxRecDepth 65536 in
set_option maxHeartbeats 4000000 in
theorem k_allocBlock_ok  : ∀ (v1 : Int32) (s : S)  (o : Int32 × S), k_allocBlock v1 s = some o → Go PP m35 0 [.val (.ref 1), .val (.int v1), .unset, .unset, .unset] [] (none, [(8, s)]) (some (.int o.1), (none, [(8, o.2)])) := by
  intro v1 s o hf
  unfold k_allocBlock at hf
  refine go_iloadN (pc := 0) d35_0 rfl ?_
  by_cases h1 : v1 < 0
  · replace hf := (if_pos h1).symm.trans hf
    refine go_ifY (pc := 1) (pc' := 10) d35_1 (XT.i0_lt_t h1) j_1_9 ?_
    refine go_iconst (pc := 10) d35_10 ci_m1 ?_
    cases hf
    exact go_iret (pc := 11) rfl d35_11
  · replace hf := (if_neg h1).symm.trans hf
    refine go_ifN (pc := 1) d35_1 (XT.i0_lt_f h1) ?_
    refine go_iloadN (pc := 4) d35_4 rfl (go_bipush (pc := 5) d35_5 cb_6 ?_)
    by_cases h2 : (6 : Int32) < v1
    · replace hf := (if_pos h2).symm.trans hf
      refine go_icN (pc := 7) d35_7 (XT.ii_le_f h2) ?_
      refine go_iconst (pc := 10) d35_10 ci_m1 ?_
      cases hf
      exact go_iret (pc := 11) rfl d35_11
    · replace hf := (if_neg h2).symm.trans hf
      refine go_icY (pc := 7) (pc' := 12) d35_7 (XT.ii_le_t h2) j_7_5 ?_
      refine go_aloadN (pc := 12) d35_12 rfl (go_iloadN (pc := 13) d35_13 rfl ?_)
      obtain ⟨r14, e3, hf⟩ := Option.bind_eq_some_iff.mp hf
      refine go_priv (pc := 14) (i := 0) (as := [.int v1]) (rest := []) (w' := (none, [(8, r14.2)])) lk_0_91 pd_32 rfl oid_0 rfl rfl rfl rfl rfl rfl ⟨rfl, rfl, rfl, rfl, rfl⟩ d35_14 (c_k_freeRunsOfOrder v1 s _ e3) ?_
      refine go_lstoreN (pc := 17) (L' := [.val (.ref 1), .val (.int v1), .val (.long r14.1), .second, .unset]) d35_17 rfl (go_lloadN (pc := 18) d35_18 rfl (go_lconst (pc := 19) d35_19 cl_0 (go_lcmp (pc := 20) d35_20 ?_)))
      by_cases h4 : r14.1 = (0 : Int64)
      · replace hf := (if_pos h4).symm.trans hf
        refine go_ifN (pc := 21) d35_21 (XT.ll_ne_f h4) ?_
        refine go_bipush (pc := 24) d35_24 cb_m4 ?_
        cases hf
        exact go_iret (pc := 26) rfl d35_26
      · replace hf := (if_neg h4).symm.trans hf
        refine go_ifY (pc := 21) (pc' := 27) d35_21 (XT.ll_ne_t h4) j_21_6 ?_
        refine go_aloadN (pc := 27) d35_27 rfl (go_lloadN (pc := 28) d35_28 rfl ?_)
        refine go_priv (pc := 29) (i := 0) (as := [.long r14.1]) (rest := []) (w' := (none, [(8, r14.2)])) lk_0_58 pd_13 rfl oid_0 rfl rfl rfl rfl rfl rfl ⟨rfl, rfl, rfl, rfl, rfl⟩ d35_29 (c_k_lowestBit r14.1 r14.2) ?_
        refine go_istore (pc := 32) (L' := [.val (.ref 1), .val (.int v1), .val (.long r14.1), .second, .val (.int (k_lowestBit r14.1))]) d35_32 rfl (go_aloadN (pc := 34) d35_34 rfl (go_iload (pc := 35) d35_35 rfl ?_))
        refine go_priv (pc := 37) (i := 0) (as := [.int (k_lowestBit r14.1)]) (rest := []) (w' := (none, [(8, r14.2)])) lk_0_62 pd_6 rfl oid_0 rfl rfl rfl rfl rfl rfl ⟨rfl, rfl, rfl, rfl, rfl⟩ d35_37 (c_k_frameInRange (k_lowestBit r14.1) r14.2) ?_
        by_cases h5 : (k_frameInRange (k_lowestBit r14.1) r14.2) = 0
        · replace hf := (if_pos h5).symm.trans hf
          refine go_ifN (pc := 40) d35_40 (XT.i0_ne_f h5) ?_
          refine go_bipush (pc := 43) d35_43 cb_m4 ?_
          cases hf
          exact go_iret (pc := 45) rfl d35_45
        · replace hf := (if_neg h5).symm.trans hf
          refine go_ifY (pc := 40) (pc' := 46) d35_40 (XT.i0_ne_t h5) j_40_6 ?_
          refine go_aloadN (pc := 46) d35_46 rfl (go_iload (pc := 47) d35_47 rfl (go_iloadN (pc := 49) d35_49 rfl ?_))
          obtain ⟨r50, e6, hf⟩ := Option.bind_eq_some_iff.mp hf
          refine go_priv (pc := 50) (i := 0) (as := [.int (k_lowestBit r14.1), .int v1]) (rest := []) (w' := (none, [(8, r50)])) lk_0_95 pd_34 rfl oid_0 rfl rfl rfl rfl rfl rfl ⟨rfl, rfl, rfl, rfl, rfl⟩ d35_50 (c_k_reserveRun (k_lowestBit r14.1) v1 r14.2 _ e6) ?_
          refine go_iload (pc := 53) d35_53 rfl ?_
          cases hf
          exact go_iret (pc := 55) rfl d35_55
theorem c_k_allocBlock (v1 : Int32) (s : S) (o : Int32 × S) (hf : k_allocBlock v1 s = some o) : Call PP m35 [.ref 1, .int v1] (none, [(8, s)]) (some (.int o.1), (none, [(8, o.2)])) := call_of_go pl_0 rfl (fun h => nomatch h) (k_allocBlock_ok v1 s   _ hf)
set_option maxRecDepth 65536 in
set_option maxHeartbeats 4000000 in
theorem k_release_ok  : ∀ (v1 : Int32) (s : S)  (o : Int32 × S), k_release v1 s = some o → Go PP m36 0 [.val (.ref 1), .val (.int v1)] [] (none, [(8, s)]) (some (.int o.1), (none, [(8, o.2)])) := by
  intro v1 s o hf
  unfold k_release at hf
  refine go_aloadN (pc := 0) d36_0 rfl (go_iloadN (pc := 1) d36_1 rfl ?_)
  refine go_priv (pc := 2) (i := 0) (as := [.int v1]) (rest := []) (w' := (none, [(8, s)])) lk_0_62 pd_6 rfl oid_0 rfl rfl rfl rfl rfl rfl ⟨rfl, rfl, rfl, rfl, rfl⟩ d36_2 (c_k_frameInRange v1 s) ?_
  by_cases h1 : (k_frameInRange v1 s) = 0
  · replace hf := (if_pos h1).symm.trans hf
    refine go_ifN (pc := 5) d36_5 (XT.i0_ne_f h1) ?_
    refine go_iconst (pc := 8) d36_8 ci_0 ?_
    cases hf
    exact go_zret (pc := 9) rfl d36_9 (show (0 : Int32) = nar .boolean (0 : Int32) by decide)
  · replace hf := (if_neg h1).symm.trans hf
    refine go_ifY (pc := 5) (pc' := 10) d36_5 (XT.i0_ne_t h1) j_5_5 ?_
    refine go_aloadN (pc := 10) d36_10 rfl (go_getA (pc := 11) fa_7 hm_36 d36_11 rfl (go_iloadN (pc := 14) d36_14 rfl ?_))
    obtain ⟨a15, e2, hf⟩ := Option.bind_eq_some_iff.mp hf
    refine go_baload (pc := 15) (q := 0) ar_0 (by decide) rfl e2 d36_15 ?_
    refine go_iconst (pc := 16) d36_16 ci_3 ?_
    by_cases h3 : a15 = (3 : Int32)
    · replace hf := (if_pos h3).symm.trans hf
      refine go_icY (pc := 17) (pc' := 22) d36_17 (XT.ii_eq_t h3) j_17_5 ?_
      refine go_aloadN (pc := 22) d36_22 rfl (go_iloadN (pc := 23) d36_23 rfl ?_)
      obtain ⟨r24, e4, hf⟩ := Option.bind_eq_some_iff.mp hf
      refine go_priv (pc := 24) (i := 0) (as := [.int v1]) (rest := []) (w' := (none, [(8, r24)])) lk_0_84 pd_25 rfl oid_0 rfl rfl rfl rfl rfl rfl ⟨rfl, rfl, rfl, rfl, rfl⟩ d36_24 (c_k_freeFrame v1 s _ e4) ?_
      refine go_iconst (pc := 27) d36_27 ci_1 ?_
      cases hf
      exact go_zret (pc := 28) rfl d36_28 (show (1 : Int32) = nar .boolean (1 : Int32) by decide)
    · replace hf := (if_neg h3).symm.trans hf
      refine go_icN (pc := 17) d36_17 (XT.ii_eq_f h3) ?_
      refine go_iconst (pc := 20) d36_20 ci_0 ?_
      cases hf
      exact go_zret (pc := 21) rfl d36_21 (show (0 : Int32) = nar .boolean (0 : Int32) by decide)
theorem c_k_release (v1 : Int32) (s : S) (o : Int32 × S) (hf : k_release v1 s = some o) : Call PP m36 [.ref 1, .int v1] (none, [(8, s)]) (some (.int o.1), (none, [(8, o.2)])) := call_of_go pl_0 rfl (fun h => nomatch h) (k_release_ok v1 s   _ hf)
set_option maxRecDepth 65536 in
set_option maxHeartbeats 4000000 in
theorem k_rangeMask_ok  {s : S} : ∀ (v1 : Int32) (v2 : Int32)   (o : Int64), k_rangeMask v1 v2 = o → Go PP m37 0 [.val (.ref 1), .val (.int v1), .val (.int v2), .unset, .unset, .unset, .unset] [] (none, [(8, s)]) (some (.long o), (none, [(8, s)])) := by
  intro v1 v2 o hf
  unfold k_rangeMask at hf
  refine go_iloadN (pc := 0) d37_0 rfl (go_iloadN (pc := 1) d37_1 rfl ?_)
  by_cases h1 : v1 < v2
  · replace hf := (if_pos h1).symm.trans hf
    refine go_icY (pc := 2) (pc' := 7) d37_2 (XT.ii_gt_t h1) j_2_5 ?_
    refine go_aloadN (pc := 7) d37_7 rfl (go_iloadN (pc := 8) d37_8 rfl ?_)
    refine go_priv (pc := 9) (i := 0) (as := [.int v2]) (rest := []) (w' := (none, [(8, s)])) lk_0_129 pd_1 rfl oid_0 rfl rfl rfl rfl rfl rfl ⟨rfl, rfl, rfl, rfl, rfl⟩ d37_9 (c_k_lowMask v2 s) ?_
    refine go_lstoreN (pc := 12) (L' := [.val (.ref 1), .val (.int v1), .val (.int v2), .val (.long (k_lowMask v2)), .second, .unset, .unset]) d37_12 rfl (go_aloadN (pc := 13) d37_13 rfl (go_iloadN (pc := 14) d37_14 rfl ?_))
    refine go_priv (pc := 15) (i := 0) (as := [.int v1]) (rest := []) (w' := (none, [(8, s)])) lk_0_129 pd_1 rfl oid_0 rfl rfl rfl rfl rfl rfl ⟨rfl, rfl, rfl, rfl, rfl⟩ d37_15 (c_k_lowMask v1 s) ?_
    refine go_lstore (pc := 18) (L' := [.val (.ref 1), .val (.int v1), .val (.int v2), .val (.long (k_lowMask v2)), .second, .val (.long (k_lowMask v1)), .second]) d37_18 rfl (go_lloadN (pc := 20) d37_20 rfl (go_lload (pc := 21) d37_21 rfl (go_ldc2 (pc := 23) (u := (-1 : Int64)) d37_23 (List.mem_of_getElem? (i := 159) rfl) (go_lxor (pc := 26) d37_26 (go_land (pc := 27) d37_27 ?_)))))
    cases hf
    exact go_lret (pc := 28) rfl d37_28
  · replace hf := (if_neg h1).symm.trans hf
    refine go_icN (pc := 2) d37_2 (XT.ii_gt_f h1) ?_
    refine go_lconst (pc := 5) d37_5 cl_0 ?_
    cases hf
    exact go_lret (pc := 6) rfl d37_6
theorem c_k_rangeMask (v1 : Int32) (v2 : Int32) (s : S) : Call PP m37 [.ref 1, .int v1, .int v2] (none, [(8, s)]) (some (.long (k_rangeMask v1 v2)), (none, [(8, s)])) := call_of_go pl_0 rfl (fun h => nomatch h) (k_rangeMask_ok v1 v2   _ rfl)
set_option maxRecDepth 65536 in
set_option maxHeartbeats 4000000 in
theorem k_advanceMigrateScanner_ok  : ∀  (s : S)  (o : S), k_advanceMigrateScanner s = o → Go PP m38 0 [.val (.ref 1), .unset, .unset, .unset, .unset] [] (none, [(8, s)]) (none, (none, [(8, o)])) := by
  intro s o hf
  unfold k_advanceMigrateScanner at hf
  refine go_aloadN (pc := 0) d38_0 rfl (go_getI (pc := 1) fs_104 hm_38 d38_1 (go_aloadN (pc := 4) d38_4 rfl (go_getI (pc := 5) fs_107 hm_38 d38_5 ?_)))
  by_cases h1 : (gI s 9) < (gI s 10)
  · replace hf := (if_pos h1).symm.trans hf
    refine go_icY (pc := 8) (pc' := 12) d38_8 (XT.ii_lt_t h1) j_8_4 ?_
    refine go_aloadN (pc := 12) d38_12 rfl (go_aloadN (pc := 13) d38_13 rfl (go_getI (pc := 14) fs_104 hm_38 d38_14 (go_aloadN (pc := 17) d38_17 rfl (go_getI (pc := 18) fs_107 hm_38 d38_18 ?_))))
    refine go_priv (pc := 21) (i := 0) (as := [.int (gI s 9), .int (gI s 10)]) (rest := []) (w' := (none, [(8, s)])) lk_0_172 pd_37 rfl oid_0 rfl rfl rfl rfl rfl rfl ⟨rfl, rfl, rfl, rfl, rfl⟩ d38_21 (c_k_rangeMask (gI s 9) (gI s 10) s) ?_
    refine go_lstoreN (pc := 24) (L' := [.val (.ref 1), .val (.long (k_rangeMask (gI s 9) (gI s 10))), .second, .unset, .unset]) d38_24 rfl (go_aloadN (pc := 25) d38_25 rfl (go_getJ (pc := 26) fs_132 hm_38 d38_26 (go_lloadN (pc := 29) d38_29 rfl (go_land (pc := 30) d38_30 (go_lstoreN (pc := 31) (L' := [.val (.ref 1), .val (.long (k_rangeMask (gI s 9) (gI s 10))), .second, .val (.long ((gL s 3) &&& (k_rangeMask (gI s 9) (gI s 10)))), .second]) d38_31 rfl (go_lloadN (pc := 32) d38_32 rfl (go_lconst (pc := 33) d38_33 cl_0 ?_)))))))
    refine go_lcmp (pc := 34) d38_34 ?_
    by_cases h2 : ((gL s 3) &&& (k_rangeMask (gI s 9) (gI s 10))) = (0 : Int64)
    · replace hf := (if_pos h2).symm.trans hf
      refine go_ifN (pc := 35) d38_35 (XT.ll_ne_f h2) ?_
      refine go_aloadN (pc := 38) d38_38 rfl (go_aloadN (pc := 39) d38_39 rfl (go_getI (pc := 40) fs_107 hm_38 d38_40 (go_putI (pc := 43) fs_104 hm_38 (wr_9 _) hn_38 d38_43 (go_goto (pc := 46) (pc' := 58) d38_46 j_46_12 ?_))))
      cases hf
      exact go_ret (pc := 58) rfl d38_58
    · replace hf := (if_neg h2).symm.trans hf
      refine go_ifY (pc := 35) (pc' := 49) d38_35 (XT.ll_ne_t h2) j_35_14 ?_
      refine go_aloadN (pc := 49) d38_49 rfl (go_aloadN (pc := 50) d38_50 rfl (go_lloadN (pc := 51) d38_51 rfl ?_))
      refine go_priv (pc := 52) (i := 0) (as := [.long ((gL s 3) &&& (k_rangeMask (gI s 9) (gI s 10)))]) (rest := [.ref 1]) (w' := (none, [(8, s)])) lk_0_58 pd_13 rfl oid_0 rfl rfl rfl rfl rfl rfl ⟨rfl, rfl, rfl, rfl, rfl⟩ d38_52 (c_k_lowestBit ((gL s 3) &&& (k_rangeMask (gI s 9) (gI s 10))) s) ?_
      refine go_putI (pc := 55) fs_104 hm_38 (wr_9 _) hn_38 d38_55 ?_
      cases hf
      exact go_ret (pc := 58) rfl d38_58
  · replace hf := (if_neg h1).symm.trans hf
    refine go_icN (pc := 8) d38_8 (XT.ii_lt_f h1) ?_
    cases hf
    exact go_ret (pc := 11) rfl d38_11
theorem c_k_advanceMigrateScanner (s : S) : Call PP m38 [.ref 1] (none, [(8, s)]) (none, (none, [(8, (k_advanceMigrateScanner s))])) := call_of_go pl_0 rfl (fun _ => rfl) (k_advanceMigrateScanner_ok s   _ rfl)
set_option maxRecDepth 65536 in
set_option maxHeartbeats 4000000 in
theorem k_highestBit_109_ok  {s : S} : ∀ (v3 : Int32) (v4 : Int64)  (x1 : Slot) (x2 : Slot) (hx1 : k2 x1 x2) (o : Int32), k_highestBit_109 v3 v4 = o → Go PP m39 109 [.val (.ref 1), x1, x2, .val (.int v3), .val (.long v4), .second] [] (none, [(8, s)]) (some (.int o), (none, [(8, s)])) := by
  intro v3 v4 x1 x2 hx1 o hf
  unfold k_highestBit_109 at hf
  refine go_lload (pc := 109) d39_109 rfl (go_iconst (pc := 111) d39_111 ci_1 (go_lushr (pc := 112) d39_112 (go_lconst (pc := 113) d39_113 cl_0 (go_lcmp (pc := 114) d39_114 ?_))))
  by_cases h2 : (XT.ushrL v4 (1 : Int32)) = (0 : Int64)
  · replace hf := (if_pos h2).symm.trans hf
    refine go_ifY (pc := 115) (pc' := 121) d39_115 (XT.ll_eq_t h2) j_115_6 ?_
    refine go_iloadN (pc := 121) d39_121 rfl ?_
    cases hf
    exact go_iret (pc := 122) rfl d39_122
  · replace hf := (if_neg h2).symm.trans hf
    refine go_ifN (pc := 115) d39_115 (XT.ll_eq_f h2) ?_
    refine go_iinc (pc := 118) (L' := [.val (.ref 1), x1, x2, .val (.int (v3 + (1 : Int32))), .val (.long v4), .second]) d39_118 rfl ci_1 rfl (go_iloadN (pc := 121) d39_121 rfl ?_)
    cases hf
    exact go_iret (pc := 122) rfl d39_122
set_option maxRecDepth 65536 in
set_option maxHeartbeats 4000000 in
theorem k_highestBit_91_ok  {s : S} : ∀ (v3 : Int32) (v4 : Int64)  (x1 : Slot) (x2 : Slot) (hx1 : k2 x1 x2) (o : Int32), k_highestBit_91 v3 v4 = o → Go PP m39 91 [.val (.ref 1), x1, x2, .val (.int v3), .val (.long v4), .second] [] (none, [(8, s)]) (some (.int o), (none, [(8, s)])) := by
  intro v3 v4 x1 x2 hx1 o hf
  unfold k_highestBit_91 at hf
  refine go_lload (pc := 91) d39_91 rfl (go_iconst (pc := 93) d39_93 ci_2 (go_lushr (pc := 94) d39_94 (go_lconst (pc := 95) d39_95 cl_0 (go_lcmp (pc := 96) d39_96 ?_))))
  by_cases h1 : (XT.ushrL v4 (2 : Int32)) = (0 : Int64)
  · refine go_ifY (pc := 97) (pc' := 109) d39_97 (XT.ll_eq_t h1) j_97_12 ?_
    exact k_highestBit_109_ok v3 v4 x1 x2 hx1 _ (by simpa only [if_pos h1] using hf)
  · refine go_ifN (pc := 97) d39_97 (XT.ll_eq_f h1) ?_
    refine go_iinc (pc := 100) (L' := [.val (.ref 1), x1, x2, .val (.int (v3 + (2 : Int32))), .val (.long v4), .second]) d39_100 rfl ci_2 rfl (go_lload (pc := 103) d39_103 rfl (go_iconst (pc := 105) d39_105 ci_2 (go_lushr (pc := 106) d39_106 (go_lstore (pc := 107) (L' := [.val (.ref 1), x1, x2, .val (.int (v3 + (2 : Int32))), .val (.long (XT.ushrL v4 (2 : Int32))), .second]) d39_107 rfl ?_))))
    exact k_highestBit_109_ok (v3 + (2 : Int32)) (XT.ushrL v4 (2 : Int32)) x1 x2 hx1 _ (by simpa only [if_neg h1] using hf)
set_option maxRecDepth 65536 in
set_option maxHeartbeats 4000000 in
theorem k_highestBit_73_ok  {s : S} : ∀ (v3 : Int32) (v4 : Int64)  (x1 : Slot) (x2 : Slot) (hx1 : k2 x1 x2) (o : Int32), k_highestBit_73 v3 v4 = o → Go PP m39 73 [.val (.ref 1), x1, x2, .val (.int v3), .val (.long v4), .second] [] (none, [(8, s)]) (some (.int o), (none, [(8, s)])) := by
  intro v3 v4 x1 x2 hx1 o hf
  unfold k_highestBit_73 at hf
  refine go_lload (pc := 73) d39_73 rfl (go_iconst (pc := 75) d39_75 ci_4 (go_lushr (pc := 76) d39_76 (go_lconst (pc := 77) d39_77 cl_0 (go_lcmp (pc := 78) d39_78 ?_))))
  by_cases h1 : (XT.ushrL v4 (4 : Int32)) = (0 : Int64)
  · refine go_ifY (pc := 79) (pc' := 91) d39_79 (XT.ll_eq_t h1) j_79_12 ?_
    exact k_highestBit_91_ok v3 v4 x1 x2 hx1 _ (by simpa only [if_pos h1] using hf)
  · refine go_ifN (pc := 79) d39_79 (XT.ll_eq_f h1) ?_
    refine go_iinc (pc := 82) (L' := [.val (.ref 1), x1, x2, .val (.int (v3 + (4 : Int32))), .val (.long v4), .second]) d39_82 rfl ci_4 rfl (go_lload (pc := 85) d39_85 rfl (go_iconst (pc := 87) d39_87 ci_4 (go_lushr (pc := 88) d39_88 (go_lstore (pc := 89) (L' := [.val (.ref 1), x1, x2, .val (.int (v3 + (4 : Int32))), .val (.long (XT.ushrL v4 (4 : Int32))), .second]) d39_89 rfl ?_))))
    exact k_highestBit_91_ok (v3 + (4 : Int32)) (XT.ushrL v4 (4 : Int32)) x1 x2 hx1 _ (by simpa only [if_neg h1] using hf)
set_option maxRecDepth 65536 in
set_option maxHeartbeats 4000000 in
theorem k_highestBit_53_ok  {s : S} : ∀ (v3 : Int32) (v4 : Int64)  (x1 : Slot) (x2 : Slot) (hx1 : k2 x1 x2) (o : Int32), k_highestBit_53 v3 v4 = o → Go PP m39 53 [.val (.ref 1), x1, x2, .val (.int v3), .val (.long v4), .second] [] (none, [(8, s)]) (some (.int o), (none, [(8, s)])) := by
  intro v3 v4 x1 x2 hx1 o hf
  unfold k_highestBit_53 at hf
  refine go_lload (pc := 53) d39_53 rfl (go_bipush (pc := 55) d39_55 cb_8 (go_lushr (pc := 57) d39_57 (go_lconst (pc := 58) d39_58 cl_0 (go_lcmp (pc := 59) d39_59 ?_))))
  by_cases h1 : (XT.ushrL v4 (8 : Int32)) = (0 : Int64)
  · refine go_ifY (pc := 60) (pc' := 73) d39_60 (XT.ll_eq_t h1) j_60_13 ?_
    exact k_highestBit_73_ok v3 v4 x1 x2 hx1 _ (by simpa only [if_pos h1] using hf)
  · refine go_ifN (pc := 60) d39_60 (XT.ll_eq_f h1) ?_
    refine go_iinc (pc := 63) (L' := [.val (.ref 1), x1, x2, .val (.int (v3 + (8 : Int32))), .val (.long v4), .second]) d39_63 rfl ci_8 rfl (go_lload (pc := 66) d39_66 rfl (go_bipush (pc := 68) d39_68 cb_8 (go_lushr (pc := 70) d39_70 (go_lstore (pc := 71) (L' := [.val (.ref 1), x1, x2, .val (.int (v3 + (8 : Int32))), .val (.long (XT.ushrL v4 (8 : Int32))), .second]) d39_71 rfl ?_))))
    exact k_highestBit_73_ok (v3 + (8 : Int32)) (XT.ushrL v4 (8 : Int32)) x1 x2 hx1 _ (by simpa only [if_neg h1] using hf)
set_option maxRecDepth 65536 in
set_option maxHeartbeats 4000000 in
theorem k_highestBit_33_ok  {s : S} : ∀ (v3 : Int32) (v4 : Int64)  (x1 : Slot) (x2 : Slot) (hx1 : k2 x1 x2) (o : Int32), k_highestBit_33 v3 v4 = o → Go PP m39 33 [.val (.ref 1), x1, x2, .val (.int v3), .val (.long v4), .second] [] (none, [(8, s)]) (some (.int o), (none, [(8, s)])) := by
  intro v3 v4 x1 x2 hx1 o hf
  unfold k_highestBit_33 at hf
  refine go_lload (pc := 33) d39_33 rfl (go_bipush (pc := 35) d39_35 cb_16 (go_lushr (pc := 37) d39_37 (go_lconst (pc := 38) d39_38 cl_0 (go_lcmp (pc := 39) d39_39 ?_))))
  by_cases h1 : (XT.ushrL v4 (16 : Int32)) = (0 : Int64)
  · refine go_ifY (pc := 40) (pc' := 53) d39_40 (XT.ll_eq_t h1) j_40_13 ?_
    exact k_highestBit_53_ok v3 v4 x1 x2 hx1 _ (by simpa only [if_pos h1] using hf)
  · refine go_ifN (pc := 40) d39_40 (XT.ll_eq_f h1) ?_
    refine go_iinc (pc := 43) (L' := [.val (.ref 1), x1, x2, .val (.int (v3 + (16 : Int32))), .val (.long v4), .second]) d39_43 rfl ci_16 rfl (go_lload (pc := 46) d39_46 rfl (go_bipush (pc := 48) d39_48 cb_16 (go_lushr (pc := 50) d39_50 (go_lstore (pc := 51) (L' := [.val (.ref 1), x1, x2, .val (.int (v3 + (16 : Int32))), .val (.long (XT.ushrL v4 (16 : Int32))), .second]) d39_51 rfl ?_))))
    exact k_highestBit_53_ok (v3 + (16 : Int32)) (XT.ushrL v4 (16 : Int32)) x1 x2 hx1 _ (by simpa only [if_neg h1] using hf)
set_option maxRecDepth 65536 in
set_option maxHeartbeats 4000000 in
theorem k_highestBit_ok  {s : S} : ∀ (v1 : Int64)   (o : Int32), k_highestBit v1 = o → Go PP m39 0 [.val (.ref 1), .val (.long v1), .second, .unset, .unset, .unset] [] (none, [(8, s)]) (some (.int o), (none, [(8, s)])) := by
  intro v1 o hf
  unfold k_highestBit at hf
  refine go_lloadN (pc := 0) d39_0 rfl (go_lconst (pc := 1) d39_1 cl_0 (go_lcmp (pc := 2) d39_2 ?_))
  by_cases h1 : v1 = (0 : Int64)
  · replace hf := (if_pos h1).symm.trans hf
    refine go_ifN (pc := 3) d39_3 (XT.ll_ne_f h1) ?_
    refine go_iconst (pc := 6) d39_6 ci_m1 ?_
    cases hf
    exact go_iret (pc := 7) rfl d39_7
  · replace hf := (if_neg h1).symm.trans hf
    refine go_ifY (pc := 3) (pc' := 8) d39_3 (XT.ll_ne_t h1) j_3_5 ?_
    refine go_iconst (pc := 8) d39_8 ci_0 (go_istoreN (pc := 9) (L' := [.val (.ref 1), .val (.long v1), .second, .val (.int (0 : Int32)), .unset, .unset]) d39_9 rfl (go_lloadN (pc := 10) d39_10 rfl (go_lstore (pc := 11) (L' := [.val (.ref 1), .val (.long v1), .second, .val (.int (0 : Int32)), .val (.long v1), .second]) d39_11 rfl (go_lload (pc := 13) d39_13 rfl (go_bipush (pc := 15) d39_15 cb_32 (go_lushr (pc := 17) d39_17 (go_lconst (pc := 18) d39_18 cl_0 ?_)))))))
    refine go_lcmp (pc := 19) d39_19 ?_
    by_cases h2 : (XT.ushrL v1 (32 : Int32)) = (0 : Int64)
    · refine go_ifY (pc := 20) (pc' := 33) d39_20 (XT.ll_eq_t h2) j_20_13 ?_
      exact k_highestBit_33_ok (0 : Int32) v1 (.val (.long v1)) .second (Or.inr ⟨_, rfl, rfl⟩) _ (by simpa only [if_pos h2] using hf)
    · refine go_ifN (pc := 20) d39_20 (XT.ll_eq_f h2) ?_
      refine go_iinc (pc := 23) (L' := [.val (.ref 1), .val (.long v1), .second, .val (.int ((0 : Int32) + (32 : Int32))), .val (.long v1), .second]) d39_23 rfl ci_32 rfl (go_lload (pc := 26) d39_26 rfl (go_bipush (pc := 28) d39_28 cb_32 (go_lushr (pc := 30) d39_30 (go_lstore (pc := 31) (L' := [.val (.ref 1), .val (.long v1), .second, .val (.int ((0 : Int32) + (32 : Int32))), .val (.long (XT.ushrL v1 (32 : Int32))), .second]) d39_31 rfl ?_))))
      exact k_highestBit_33_ok ((0 : Int32) + (32 : Int32)) (XT.ushrL v1 (32 : Int32)) (.val (.long v1)) .second (Or.inr ⟨_, rfl, rfl⟩) _ (by simpa only [if_neg h2] using hf)
theorem c_k_highestBit (v1 : Int64) (s : S) : Call PP m39 [.ref 1, .long v1] (none, [(8, s)]) (some (.int (k_highestBit v1)), (none, [(8, s)])) := call_of_go pl_0 rfl (fun h => nomatch h) (k_highestBit_ok v1   _ rfl)
set_option maxRecDepth 65536 in
set_option maxHeartbeats 4000000 in
theorem k_retreatFreeScanner_ok  : ∀  (s : S)  (o : S), k_retreatFreeScanner s = o → Go PP m40 0 [.val (.ref 1), .unset, .unset, .unset, .unset] [] (none, [(8, s)]) (none, (none, [(8, o)])) := by
  intro s o hf
  unfold k_retreatFreeScanner at hf
  refine go_aloadN (pc := 0) d40_0 rfl (go_getI (pc := 1) fs_107 hm_40 d40_1 (go_aloadN (pc := 4) d40_4 rfl (go_getI (pc := 5) fs_104 hm_40 d40_5 ?_)))
  by_cases h1 : (gI s 9) < (gI s 10)
  · replace hf := (if_pos h1).symm.trans hf
    refine go_icY (pc := 8) (pc' := 12) d40_8 (XT.ii_gt_t h1) j_8_4 ?_
    refine go_aloadN (pc := 12) d40_12 rfl (go_aloadN (pc := 13) d40_13 rfl (go_getI (pc := 14) fs_104 hm_40 d40_14 (go_iconst (pc := 17) d40_17 ci_1 (go_iadd (pc := 18) d40_18 (go_aloadN (pc := 19) d40_19 rfl (go_getI (pc := 20) fs_107 hm_40 d40_20 (go_iconst (pc := 23) d40_23 ci_1 ?_)))))))
    refine go_iadd (pc := 24) d40_24 ?_
    refine go_priv (pc := 25) (i := 0) (as := [.int ((gI s 9) + (1 : Int32)), .int ((gI s 10) + (1 : Int32))]) (rest := []) (w' := (none, [(8, s)])) lk_0_172 pd_37 rfl oid_0 rfl rfl rfl rfl rfl rfl ⟨rfl, rfl, rfl, rfl, rfl⟩ d40_25 (c_k_rangeMask ((gI s 9) + (1 : Int32)) ((gI s 10) + (1 : Int32)) s) ?_
    refine go_lstoreN (pc := 28) (L' := [.val (.ref 1), .val (.long (k_rangeMask ((gI s 9) + (1 : Int32)) ((gI s 10) + (1 : Int32)))), .second, .unset, .unset]) d40_28 rfl (go_aloadN (pc := 29) d40_29 rfl (go_getJ (pc := 30) fs_54 hm_40 d40_30 (go_lloadN (pc := 33) d40_33 rfl (go_land (pc := 34) d40_34 (go_lstoreN (pc := 35) (L' := [.val (.ref 1), .val (.long (k_rangeMask ((gI s 9) + (1 : Int32)) ((gI s 10) + (1 : Int32)))), .second, .val (.long ((gL s 2) &&& (k_rangeMask ((gI s 9) + (1 : Int32)) ((gI s 10) + (1 : Int32))))), .second]) d40_35 rfl (go_lloadN (pc := 36) d40_36 rfl (go_lconst (pc := 37) d40_37 cl_0 ?_)))))))
    refine go_lcmp (pc := 38) d40_38 ?_
    by_cases h2 : ((gL s 2) &&& (k_rangeMask ((gI s 9) + (1 : Int32)) ((gI s 10) + (1 : Int32)))) = (0 : Int64)
    · replace hf := (if_pos h2).symm.trans hf
      refine go_ifN (pc := 39) d40_39 (XT.ll_ne_f h2) ?_
      refine go_aloadN (pc := 42) d40_42 rfl (go_aloadN (pc := 43) d40_43 rfl (go_getI (pc := 44) fs_104 hm_40 d40_44 (go_putI (pc := 47) fs_107 hm_40 (wr_10 _) hn_40 d40_47 (go_goto (pc := 50) (pc' := 62) d40_50 j_50_12 ?_))))
      cases hf
      exact go_ret (pc := 62) rfl d40_62
    · replace hf := (if_neg h2).symm.trans hf
      refine go_ifY (pc := 39) (pc' := 53) d40_39 (XT.ll_ne_t h2) j_39_14 ?_
      refine go_aloadN (pc := 53) d40_53 rfl (go_aloadN (pc := 54) d40_54 rfl (go_lloadN (pc := 55) d40_55 rfl ?_))
      refine go_priv (pc := 56) (i := 0) (as := [.long ((gL s 2) &&& (k_rangeMask ((gI s 9) + (1 : Int32)) ((gI s 10) + (1 : Int32))))]) (rest := [.ref 1]) (w' := (none, [(8, s)])) lk_0_176 pd_39 rfl oid_0 rfl rfl rfl rfl rfl rfl ⟨rfl, rfl, rfl, rfl, rfl⟩ d40_56 (c_k_highestBit ((gL s 2) &&& (k_rangeMask ((gI s 9) + (1 : Int32)) ((gI s 10) + (1 : Int32)))) s) ?_
      refine go_putI (pc := 59) fs_107 hm_40 (wr_10 _) hn_40 d40_59 ?_
      cases hf
      exact go_ret (pc := 62) rfl d40_62
  · replace hf := (if_neg h1).symm.trans hf
    refine go_icN (pc := 8) d40_8 (XT.ii_gt_f h1) ?_
    cases hf
    exact go_ret (pc := 11) rfl d40_11
theorem c_k_retreatFreeScanner (s : S) : Call PP m40 [.ref 1] (none, [(8, s)]) (none, (none, [(8, (k_retreatFreeScanner s))])) := call_of_go pl_0 rfl (fun _ => rfl) (k_retreatFreeScanner_ok s   _ rfl)
set_option maxRecDepth 65536 in
set_option maxHeartbeats 4000000 in
theorem k_scannersDone_ok  : ∀  (s : S)  (o : Int32), k_scannersDone s = o → Go PP m41 0 [.val (.ref 1)] [] (none, [(8, s)]) (some (.int o), (none, [(8, s)])) := by
  intro s o hf
  unfold k_scannersDone at hf
  refine go_aloadN (pc := 0) d41_0 rfl (go_getI (pc := 1) fs_104 hm_41 d41_1 (go_aloadN (pc := 4) d41_4 rfl (go_getI (pc := 5) fs_107 hm_41 d41_5 ?_)))
  by_cases h1 : (gI s 9) < (gI s 10)
  · replace hf := (if_pos h1).symm.trans hf
    refine go_icY (pc := 8) (pc' := 13) d41_8 (XT.ii_lt_t h1) j_8_5 ?_
    refine go_aloadN (pc := 13) d41_13 rfl (go_getI (pc := 14) fs_101 hm_41 d41_14 (go_aloadN (pc := 17) d41_17 rfl (go_getI (pc := 18) fs_98 hm_41 d41_18 ?_)))
    by_cases h2 : (gI s 8) = (gI s 7)
    · replace hf := (if_pos h2).symm.trans hf
      refine go_icN (pc := 21) d41_21 (XT.ii_ne_f h2) ?_
      refine go_iconst (pc := 24) d41_24 ci_1 (go_goto (pc := 25) (pc' := 29) d41_25 j_25_4 ?_)
      cases hf
      exact go_zret (pc := 29) rfl d41_29 (show (1 : Int32) = nar .boolean (1 : Int32) by decide)
    · replace hf := (if_neg h2).symm.trans hf
      refine go_icY (pc := 21) (pc' := 28) d41_21 (XT.ii_ne_t h2) j_21_7 ?_
      refine go_iconst (pc := 28) d41_28 ci_0 ?_
      cases hf
      exact go_zret (pc := 29) rfl d41_29 (show (0 : Int32) = nar .boolean (0 : Int32) by decide)
  · replace hf := (if_neg h1).symm.trans hf
    refine go_icN (pc := 8) d41_8 (XT.ii_lt_f h1) ?_
    refine go_iconst (pc := 11) d41_11 ci_1 ?_
    cases hf
    exact go_zret (pc := 12) rfl d41_12 (show (1 : Int32) = nar .boolean (1 : Int32) by decide)
theorem c_k_scannersDone (s : S) : Call PP m41 [.ref 1] (none, [(8, s)]) (some (.int (k_scannersDone s)), (none, [(8, s)])) := call_of_go pl_0 rfl (fun h => nomatch h) (k_scannersDone_ok s   _ rfl)
set_option maxRecDepth 65536 in
set_option maxHeartbeats 4000000 in
theorem k_rmapTransfer_47_ok  : ∀ (v1 : Int32) (v2 : Int32) (s : S) (x3 : Slot) (x4 : Slot) (hx3 : k1 x3) (hx4 : k1 x4) (o : S), k_rmapTransfer_47 v1 v2 s = some o → Go PP m42 47 [.val (.ref 1), .val (.int v1), .val (.int v2), x3, x4] [] (none, [(8, s)]) (none, (none, [(8, o)])) := by
  intro v1 v2 s x3 x4 hx3 hx4 o hf
  unfold k_rmapTransfer_47 at hf
  refine go_aloadN (pc := 47) d42_47 rfl (go_getA (pc := 48) fa_23 hm_42 d42_48 rfl (go_iloadN (pc := 51) d42_51 rfl (go_aloadN (pc := 52) d42_52 rfl (go_getA (pc := 53) fa_23 hm_42 d42_53 rfl (go_iloadN (pc := 56) d42_56 rfl ?_)))))
  obtain ⟨a57, e1, hf⟩ := Option.bind_eq_some_iff.mp hf
  refine go_iaload (pc := 57) (q := 4) ar_4 rfl e1 d42_57 ?_
  obtain ⟨a58, e2, hf⟩ := Option.bind_eq_some_iff.mp hf
  refine go_iastore (pc := 58) (q := 4) ar_4 rfl hn_42 e2 d42_58 ?_
  refine go_aloadN (pc := 59) d42_59 rfl (go_getA (pc := 60) fa_23 hm_42 d42_60 rfl (go_iloadN (pc := 63) d42_63 rfl (go_iconst (pc := 64) d42_64 ci_m1 ?_)))
  obtain ⟨a65, e3, hf⟩ := Option.bind_eq_some_iff.mp hf
  refine go_iastore (pc := 65) (q := 4) ar_4 rfl hn_42 e3 d42_65 ?_
  cases hf
  exact go_ret (pc := 66) rfl d42_66
set_option maxRecDepth 65536 in
set_option maxHeartbeats 4000000 in
theorem k_rmapTransfer_10_ok  : ∀ (n : Nat) (v1 : Int32) (v2 : Int32) (v3 : Int32) (v4 : Int32) (s : S)  (o : S), k_rmapTransfer_10 n v1 v2 v3 v4 s = some o → Go PP m42 10 [.val (.ref 1), .val (.int v1), .val (.int v2), .val (.int v3), .val (.int v4)] [] (none, [(8, s)]) (none, (none, [(8, o)])) := by
  intro n
  induction n with
  | zero => intro v1 v2 v3 v4 s o hf; exact nomatch hf
  | succ n ih =>
    intro v1 v2 v3 v4 s o hf
    unfold k_rmapTransfer_10 at hf
    refine go_iload (pc := 10) d42_10 rfl (go_bipush (pc := 12) d42_12 cb_64 ?_)
    by_cases h1 : v4 < (64 : Int32)
    · replace hf := (if_pos h1).symm.trans hf
      refine go_icN (pc := 14) d42_14 (XT.ii_ge_f h1) ?_
      refine go_iloadN (pc := 17) d42_17 rfl ?_
      by_cases h2 : v3 < 0
      · replace hf := (if_pos h2).symm.trans hf
        refine go_ifY (pc := 18) (pc' := 47) d42_18 (XT.i0_lt_t h2) j_18_29 ?_
        exact k_rmapTransfer_47_ok v1 v2 s (.val (.int v3)) (.val (.int v4)) (Or.inr ⟨_, rfl, rfl⟩) (Or.inr ⟨_, rfl, rfl⟩) _ hf
      · replace hf := (if_neg h2).symm.trans hf
        refine go_ifN (pc := 18) d42_18 (XT.i0_lt_f h2) ?_
        refine go_iloadN (pc := 21) d42_21 rfl (go_bipush (pc := 22) d42_22 cb_64 ?_)
        by_cases h3 : v3 < (64 : Int32)
        · replace hf := (if_pos h3).symm.trans hf
          refine go_icN (pc := 24) d42_24 (XT.ii_ge_f h3) ?_
          refine go_aloadN (pc := 27) d42_27 rfl (go_getA (pc := 28) fa_20 hm_42 d42_28 rfl (go_iloadN (pc := 31) d42_31 rfl (go_iloadN (pc := 32) d42_32 rfl ?_)))
          obtain ⟨a33, e4, hf⟩ := Option.bind_eq_some_iff.mp hf
          refine go_iastore (pc := 33) (q := 3) ar_3 rfl hn_42 e4 d42_33 ?_
          refine go_aloadN (pc := 34) d42_34 rfl (go_getA (pc := 35) fa_26 hm_42 d42_35 rfl (go_iloadN (pc := 38) d42_38 rfl ?_))
          obtain ⟨a39, e5, hf⟩ := Option.bind_eq_some_iff.mp hf
          refine go_iaload (pc := 39) (q := 5) ar_5 rfl e5 d42_39 ?_
          refine go_istoreN (pc := 40) (L' := [.val (.ref 1), .val (.int v1), .val (.int v2), .val (.int a39), .val (.int v4)]) d42_40 rfl (go_iinc (pc := 41) (L' := [.val (.ref 1), .val (.int v1), .val (.int v2), .val (.int a39), .val (.int (v4 + (1 : Int32)))]) d42_41 rfl ci_1 rfl (go_goto (pc := 44) (pc' := 10) d42_44 j_44_m34 ?_))
          exact ih v1 v2 a39 (v4 + (1 : Int32)) (sA s 3 a33) _ hf
        · replace hf := (if_neg h3).symm.trans hf
          refine go_icY (pc := 24) (pc' := 47) d42_24 (XT.ii_ge_t h3) j_24_23 ?_
          exact k_rmapTransfer_47_ok v1 v2 s (.val (.int v3)) (.val (.int v4)) (Or.inr ⟨_, rfl, rfl⟩) (Or.inr ⟨_, rfl, rfl⟩) _ hf
    · replace hf := (if_neg h1).symm.trans hf
      refine go_icY (pc := 14) (pc' := 47) d42_14 (XT.ii_ge_t h1) j_14_33 ?_
      exact k_rmapTransfer_47_ok v1 v2 s (.val (.int v3)) (.val (.int v4)) (Or.inr ⟨_, rfl, rfl⟩) (Or.inr ⟨_, rfl, rfl⟩) _ hf
set_option maxRecDepth 65536 in
set_option maxHeartbeats 4000000 in
theorem k_rmapTransfer_ok  : ∀ (v1 : Int32) (v2 : Int32) (s : S)  (o : S), k_rmapTransfer v1 v2 s = some o → Go PP m42 0 [.val (.ref 1), .val (.int v1), .val (.int v2), .unset, .unset] [] (none, [(8, s)]) (none, (none, [(8, o)])) := by
  intro v1 v2 s o hf
  unfold k_rmapTransfer at hf
  refine go_aloadN (pc := 0) d42_0 rfl (go_getA (pc := 1) fa_23 hm_42 d42_1 rfl (go_iloadN (pc := 4) d42_4 rfl ?_))
  obtain ⟨a5, e1, hf⟩ := Option.bind_eq_some_iff.mp hf
  refine go_iaload (pc := 5) (q := 4) ar_4 rfl e1 d42_5 ?_
  refine go_istoreN (pc := 6) (L' := [.val (.ref 1), .val (.int v1), .val (.int v2), .val (.int a5), .unset]) d42_6 rfl (go_iconst (pc := 7) d42_7 ci_0 (go_istore (pc := 8) (L' := [.val (.ref 1), .val (.int v1), .val (.int v2), .val (.int a5), .val (.int (0 : Int32))]) d42_8 rfl ?_))
  exact k_rmapTransfer_10_ok BIG v1 v2 a5 (0 : Int32) s _ hf
theorem c_k_rmapTransfer (v1 : Int32) (v2 : Int32) (s : S) (o : S) (hf : k_rmapTransfer v1 v2 s = some o) : Call PP m42 [.ref 1, .int v1, .int v2] (none, [(8, s)]) (none, (none, [(8, o)])) := call_of_go pl_0 rfl (fun _ => rfl) (k_rmapTransfer_ok v1 v2 s   _ hf)
set_option maxRecDepth 65536 in
set_option maxHeartbeats 4000000 in
theorem k_migrateFrame_ok  : ∀ (v1 : Int32) (v2 : Int32) (s : S)  (o : S), k_migrateFrame v1 v2 s = some o → Go PP m43 0 [.val (.ref 1), .val (.int v1), .val (.int v2), .unset, .unset] [] (none, [(8, s)]) (none, (none, [(8, o)])) := by
  intro v1 v2 s o hf
  unfold k_migrateFrame at hf
  refine go_aloadN (pc := 0) d43_0 rfl (go_iloadN (pc := 1) d43_1 rfl ?_)
  refine go_priv (pc := 2) (i := 0) (as := [.int v1]) (rest := []) (w' := (none, [(8, s)])) lk_0_62 pd_6 rfl oid_0 rfl rfl rfl rfl rfl rfl ⟨rfl, rfl, rfl, rfl, rfl⟩ d43_2 (c_k_frameInRange v1 s) ?_
  by_cases h1 : (k_frameInRange v1 s) = 0
  · replace hf := (if_pos h1).symm.trans hf
    refine go_ifY (pc := 5) (pc' := 16) d43_5 (XT.i0_eq_t h1) j_5_11 ?_
    cases hf
    exact go_ret (pc := 16) rfl d43_16
  · replace hf := (if_neg h1).symm.trans hf
    refine go_ifN (pc := 5) d43_5 (XT.i0_eq_f h1) ?_
    refine go_aloadN (pc := 8) d43_8 rfl (go_iloadN (pc := 9) d43_9 rfl ?_)
    refine go_priv (pc := 10) (i := 0) (as := [.int v2]) (rest := []) (w' := (none, [(8, s)])) lk_0_62 pd_6 rfl oid_0 rfl rfl rfl rfl rfl rfl ⟨rfl, rfl, rfl, rfl, rfl⟩ d43_10 (c_k_frameInRange v2 s) ?_
    by_cases h2 : (k_frameInRange v2 s) = 0
    · replace hf := (if_pos h2).symm.trans hf
      refine go_ifN (pc := 13) d43_13 (XT.i0_ne_f h2) ?_
      cases hf
      exact go_ret (pc := 16) rfl d43_16
    · replace hf := (if_neg h2).symm.trans hf
      refine go_ifY (pc := 13) (pc' := 17) d43_13 (XT.i0_ne_t h2) j_13_4 ?_
      refine go_aloadN (pc := 17) d43_17 rfl (go_getA (pc := 18) fa_7 hm_43 d43_18 rfl (go_iloadN (pc := 21) d43_21 rfl ?_))
      obtain ⟨a22, e3, hf⟩ := Option.bind_eq_some_iff.mp hf
      refine go_baload (pc := 22) (q := 0) ar_0 (by decide) rfl e3 d43_22 ?_
      refine go_iconst (pc := 23) d43_23 ci_1 ?_
      by_cases h4 : a22 = (1 : Int32)
      · replace hf := (if_pos h4).symm.trans hf
        refine go_icN (pc := 24) d43_24 (XT.ii_ne_f h4) ?_
        refine go_aloadN (pc := 27) d43_27 rfl (go_getA (pc := 28) fa_7 hm_43 d43_28 rfl (go_iloadN (pc := 31) d43_31 rfl ?_))
        obtain ⟨a32, e5, hf⟩ := Option.bind_eq_some_iff.mp hf
        refine go_baload (pc := 32) (q := 0) ar_0 (by decide) rfl e5 d43_32 ?_
        by_cases h6 : a32 = 0
        · replace hf := (if_pos h6).symm.trans hf
          refine go_ifY (pc := 33) (pc' := 37) d43_33 (XT.i0_eq_t h6) j_33_4 ?_
          refine go_aloadN (pc := 37) d43_37 rfl (go_getA (pc := 38) fa_13 hm_43 d43_38 rfl (go_iloadN (pc := 41) d43_41 rfl ?_))
          obtain ⟨a42, e7, hf⟩ := Option.bind_eq_some_iff.mp hf
          refine go_iaload (pc := 42) (q := 1) ar_1 rfl e7 d43_42 ?_
          refine go_istoreN (pc := 43) (L' := [.val (.ref 1), .val (.int v1), .val (.int v2), .val (.int a42), .unset]) d43_43 rfl (go_aloadN (pc := 44) d43_44 rfl (go_getA (pc := 45) fa_17 hm_43 d43_45 rfl (go_iloadN (pc := 48) d43_48 rfl ?_)))
          obtain ⟨a49, e8, hf⟩ := Option.bind_eq_some_iff.mp hf
          refine go_iaload (pc := 49) (q := 2) ar_2 rfl e8 d43_49 ?_
          refine go_istore (pc := 50) (L' := [.val (.ref 1), .val (.int v1), .val (.int v2), .val (.int a42), .val (.int a49)]) d43_50 rfl (go_aloadN (pc := 52) d43_52 rfl (go_iloadN (pc := 53) d43_53 rfl (go_iconst (pc := 54) d43_54 ci_1 ?_)))
          obtain ⟨r55, e9, hf⟩ := Option.bind_eq_some_iff.mp hf
          refine go_priv (pc := 55) (i := 0) (as := [.int v2, .int (1 : Int32)]) (rest := []) (w' := (none, [(8, r55)])) lk_0_69 pd_15 rfl oid_0 rfl rfl rfl rfl rfl rfl ⟨rfl, rfl, rfl, rfl, rfl⟩ d43_55 (c_k_enterState v2 (1 : Int32) s _ e9) ?_
          refine go_aloadN (pc := 58) d43_58 rfl (go_getA (pc := 59) fa_13 hm_43 d43_59 rfl (go_iloadN (pc := 62) d43_62 rfl (go_iloadN (pc := 63) d43_63 rfl ?_)))
          obtain ⟨a64, e10, hf⟩ := Option.bind_eq_some_iff.mp hf
          refine go_iastore (pc := 64) (q := 1) ar_1 rfl hn_43 e10 d43_64 ?_
          refine go_aloadN (pc := 65) d43_65 rfl (go_getA (pc := 66) fa_17 hm_43 d43_66 rfl (go_iloadN (pc := 69) d43_69 rfl (go_iload (pc := 70) d43_70 rfl ?_)))
          obtain ⟨a72, e11, hf⟩ := Option.bind_eq_some_iff.mp hf
          refine go_iastore (pc := 72) (q := 2) ar_2 rfl hn_43 e11 d43_72 ?_
          refine go_aloadN (pc := 73) d43_73 rfl (go_iloadN (pc := 74) d43_74 rfl (go_iloadN (pc := 75) d43_75 rfl ?_))
          obtain ⟨r76, e12, hf⟩ := Option.bind_eq_some_iff.mp hf
          refine go_priv (pc := 76) (i := 0) (as := [.int v1, .int v2]) (rest := []) (w' := (none, [(8, r76)])) lk_0_179 pd_42 rfl oid_0 rfl rfl rfl rfl rfl rfl ⟨rfl, rfl, rfl, rfl, rfl⟩ d43_76 (c_k_rmapTransfer v1 v2 (sA (sA r55 1 a64) 2 a72) _ e12) ?_
          refine go_aloadN (pc := 79) d43_79 rfl (go_iloadN (pc := 80) d43_80 rfl ?_)
          obtain ⟨r81, e13, hf⟩ := Option.bind_eq_some_iff.mp hf
          refine go_priv (pc := 81) (i := 0) (as := [.int v1]) (rest := []) (w' := (none, [(8, r81)])) lk_0_84 pd_25 rfl oid_0 rfl rfl rfl rfl rfl rfl ⟨rfl, rfl, rfl, rfl, rfl⟩ d43_81 (c_k_freeFrame v1 r76 _ e13) ?_
          cases hf
          exact go_ret (pc := 84) rfl d43_84
        · replace hf := (if_neg h6).symm.trans hf
          refine go_ifN (pc := 33) d43_33 (XT.i0_eq_f h6) ?_
          cases hf
          exact go_ret (pc := 36) rfl d43_36
      · replace hf := (if_neg h4).symm.trans hf
        refine go_icY (pc := 24) (pc' := 36) d43_24 (XT.ii_ne_t h4) j_24_12 ?_
        cases hf
        exact go_ret (pc := 36) rfl d43_36
theorem c_k_migrateFrame (v1 : Int32) (v2 : Int32) (s : S) (o : S) (hf : k_migrateFrame v1 v2 s = some o) : Call PP m43 [.ref 1, .int v1, .int v2] (none, [(8, s)]) (none, (none, [(8, o)])) := call_of_go pl_0 rfl (fun _ => rfl) (k_migrateFrame_ok v1 v2 s   _ hf)
set_option maxRecDepth 65536 in
set_option maxHeartbeats 4000000 in
theorem k_compact_34_ok  : ∀ (n : Nat) (v2 : Int32) (s : S) (x1 : Slot) (hx1 : k1 x1) (o : Int32 × S), k_compact_34 n v2 s = some o → Go PP m44 34 [.val (.ref 1), x1, .val (.int v2)] [] (none, [(8, s)]) (some (.int o.1), (none, [(8, o.2)])) := by
  intro n
  induction n with
  | zero => intro v2 s x1 hx1 o hf; exact nomatch hf
  | succ n ih =>
    intro v2 s x1 hx1 o hf
    unfold k_compact_34 at hf
    refine go_iloadN (pc := 34) d44_34 rfl (go_bipush (pc := 35) d44_35 cb_65 ?_)
    by_cases h1 : (65 : Int32) < v2
    · replace hf := (if_pos h1).symm.trans hf
      refine go_icY (pc := 37) (pc' := 106) d44_37 (XT.ii_gt_t h1) j_37_69 ?_
      refine go_aloadN (pc := 106) d44_106 rfl (go_getI (pc := 107) fs_101 hm_44 d44_107 ?_)
      cases hf
      exact go_iret (pc := 110) rfl d44_110
    · replace hf := (if_neg h1).symm.trans hf
      refine go_icN (pc := 37) d44_37 (XT.ii_gt_f h1) ?_
      refine go_aloadN (pc := 40) d44_40 rfl ?_
      refine go_priv (pc := 41) (i := 0) (as := []) (rest := []) (w' := (none, [(8, (k_advanceMigrateScanner s))])) lk_0_110 pd_38 rfl oid_0 rfl rfl rfl rfl rfl rfl ⟨rfl, rfl, rfl, rfl, rfl⟩ d44_41 (c_k_advanceMigrateScanner s) ?_
      refine go_aloadN (pc := 44) d44_44 rfl ?_
      refine go_priv (pc := 45) (i := 0) (as := []) (rest := []) (w' := (none, [(8, (k_retreatFreeScanner (k_advanceMigrateScanner s)))])) lk_0_113 pd_40 rfl oid_0 rfl rfl rfl rfl rfl rfl ⟨rfl, rfl, rfl, rfl, rfl⟩ d44_45 (c_k_retreatFreeScanner (k_advanceMigrateScanner s)) ?_
      refine go_aloadN (pc := 48) d44_48 rfl ?_
      refine go_priv (pc := 49) (i := 0) (as := []) (rest := []) (w' := (none, [(8, (k_retreatFreeScanner (k_advanceMigrateScanner s)))])) lk_0_116 pd_41 rfl oid_0 rfl rfl rfl rfl rfl rfl ⟨rfl, rfl, rfl, rfl, rfl⟩ d44_49 (c_k_scannersDone (k_retreatFreeScanner (k_advanceMigrateScanner s))) ?_
      by_cases h2 : (k_scannersDone (k_retreatFreeScanner (k_advanceMigrateScanner s))) = 0
      · replace hf := (if_pos h2).symm.trans hf
        refine go_ifY (pc := 52) (pc' := 58) d44_52 (XT.i0_eq_t h2) j_52_6 ?_
        refine go_aloadN (pc := 58) d44_58 rfl (go_aloadN (pc := 59) d44_59 rfl (go_getI (pc := 60) fs_104 hm_44 d44_60 (go_aloadN (pc := 63) d44_63 rfl (go_getI (pc := 64) fs_107 hm_44 d44_64 ?_))))
        obtain ⟨r67, e3, hf⟩ := Option.bind_eq_some_iff.mp hf
        refine go_priv (pc := 67) (i := 0) (as := [.int (gI (k_retreatFreeScanner (k_advanceMigrateScanner s)) 9), .int (gI (k_retreatFreeScanner (k_advanceMigrateScanner s)) 10)]) (rest := []) (w' := (none, [(8, r67)])) lk_0_120 pd_43 rfl oid_0 rfl rfl rfl rfl rfl rfl ⟨rfl, rfl, rfl, rfl, rfl⟩ d44_67 (c_k_migrateFrame (gI (k_retreatFreeScanner (k_advanceMigrateScanner s)) 9) (gI (k_retreatFreeScanner (k_advanceMigrateScanner s)) 10) (k_retreatFreeScanner (k_advanceMigrateScanner s)) _ e3) ?_
        refine go_aloadN (pc := 70) d44_70 rfl (go_aloadN (pc := 71) d44_71 rfl (go_getI (pc := 72) fs_101 hm_44 d44_72 (go_iconst (pc := 75) d44_75 ci_1 (go_iadd (pc := 76) d44_76 (go_putI (pc := 77) fs_101 hm_44 (wr_8 _) hn_44 d44_77 (go_aloadN (pc := 80) d44_80 rfl (go_aloadN (pc := 81) d44_81 rfl ?_)))))))
        refine go_getI (pc := 82) fs_104 hm_44 d44_82 (go_iconst (pc := 85) d44_85 ci_1 (go_iadd (pc := 86) d44_86 (go_putI (pc := 87) fs_104 hm_44 (wr_9 _) hn_44 d44_87 (go_aloadN (pc := 90) d44_90 rfl (go_aloadN (pc := 91) d44_91 rfl (go_getI (pc := 92) fs_107 hm_44 d44_92 (go_iconst (pc := 95) d44_95 ci_1 ?_)))))))
        refine go_isub (pc := 96) d44_96 (go_putI (pc := 97) fs_107 hm_44 (wr_10 _) hn_44 d44_97 (go_iinc (pc := 100) (L' := [.val (.ref 1), x1, .val (.int (v2 + (1 : Int32)))]) d44_100 rfl ci_1 rfl (go_goto (pc := 103) (pc' := 34) d44_103 j_103_m69 ?_)))
        exact ih (v2 + (1 : Int32)) (sI (sI (sI r67 8 ((gI r67 8) + (1 : Int32))) 9 ((gI r67 9) + (1 : Int32))) 10 ((gI r67 10) - (1 : Int32))) x1 hx1 _ hf
      · replace hf := (if_neg h2).symm.trans hf
        refine go_ifN (pc := 52) d44_52 (XT.i0_eq_f h2) ?_
        refine go_goto (pc := 55) (pc' := 106) d44_55 j_55_51 (go_aloadN (pc := 106) d44_106 rfl (go_getI (pc := 107) fs_101 hm_44 d44_107 ?_))
        cases hf
        exact go_iret (pc := 110) rfl d44_110
set_option maxRecDepth 65536 in
set_option maxHeartbeats 4000000 in
theorem k_compact_ok  : ∀ (v1 : Int32) (s : S)  (o : Int32 × S), k_compact v1 s = some o → Go PP m44 0 [.val (.ref 1), .val (.int v1), .unset] [] (none, [(8, s)]) (some (.int o.1), (none, [(8, o.2)])) := by
  intro v1 s o hf
  unfold k_compact at hf
  refine go_aloadN (pc := 0) d44_0 rfl (go_aloadN (pc := 1) d44_1 rfl (go_iloadN (pc := 2) d44_2 rfl (go_iconst (pc := 3) d44_3 ci_0 (go_bipush (pc := 4) d44_4 cb_64 ?_))))
  refine go_priv (pc := 6) (i := 0) (as := [.int v1, .int (0 : Int32), .int (64 : Int32)]) (rest := [.ref 1]) (w' := (none, [(8, s)])) lk_0_36 pd_0 rfl oid_0 rfl rfl rfl rfl rfl rfl ⟨rfl, rfl, rfl, rfl, rfl⟩ d44_6 (c_k_clampInt v1 (0 : Int32) (64 : Int32) s) ?_
  refine go_putI (pc := 9) fs_98 hm_44 (wr_7 _) hn_44 d44_9 (go_aloadN (pc := 12) d44_12 rfl (go_iconst (pc := 13) d44_13 ci_0 (go_putI (pc := 14) fs_101 hm_44 (wr_8 _) hn_44 d44_14 (go_aloadN (pc := 17) d44_17 rfl (go_iconst (pc := 18) d44_18 ci_0 (go_putI (pc := 19) fs_104 hm_44 (wr_9 _) hn_44 d44_19 (go_aloadN (pc := 22) d44_22 rfl ?_)))))))
  refine go_aloadN (pc := 23) d44_23 rfl (go_getI (pc := 24) fs_40 hm_44 d44_24 (go_iconst (pc := 27) d44_27 ci_1 (go_isub (pc := 28) d44_28 (go_putI (pc := 29) fs_107 hm_44 (wr_10 _) hn_44 d44_29 (go_iconst (pc := 32) d44_32 ci_0 (go_istoreN (pc := 33) (L' := [.val (.ref 1), .val (.int v1), .val (.int (0 : Int32))]) d44_33 rfl ?_))))))
  exact k_compact_34_ok BIG (0 : Int32) (sI (sI (sI (sI s 7 (k_clampInt v1 (0 : Int32) (64 : Int32))) 8 (0 : Int32)) 9 (0 : Int32)) 10 ((gI s 0) - (1 : Int32))) (.val (.int v1)) (Or.inr ⟨_, rfl, rfl⟩) _ hf
theorem c_k_compact (v1 : Int32) (s : S) (o : Int32 × S) (hf : k_compact v1 s = some o) : Call PP m44 [.ref 1, .int v1] (none, [(8, s)]) (some (.int o.1), (none, [(8, o.2)])) := call_of_go pl_0 rfl (fun h => nomatch h) (k_compact_ok v1 s   _ hf)
set_option maxRecDepth 65536 in
set_option maxHeartbeats 4000000 in
theorem k_largestFreeOrder_18_ok  : ∀ (n : Nat) (v1 : Int32) (s : S)  (o : Int32 × S), k_largestFreeOrder_18 n v1 s = some o → Go PP m45 18 [.val (.ref 1), .val (.int v1)] [] (none, [(8, s)]) (some (.int o.1), (none, [(8, o.2)])) := by
  intro n
  induction n with
  | zero => intro v1 s o hf; exact nomatch hf
  | succ n ih =>
    intro v1 s o hf
    unfold k_largestFreeOrder_18 at hf
    refine go_iloadN (pc := 18) d45_18 rfl ?_
    by_cases h1 : v1 < 0
    · replace hf := (if_pos h1).symm.trans hf
      refine go_ifY (pc := 19) (pc' := 41) d45_19 (XT.i0_lt_t h1) j_19_22 ?_
      refine go_iconst (pc := 41) d45_41 ci_m1 ?_
      cases hf
      exact go_iret (pc := 42) rfl d45_42
    · replace hf := (if_neg h1).symm.trans hf
      refine go_ifN (pc := 19) d45_19 (XT.i0_lt_f h1) ?_
      refine go_aloadN (pc := 22) d45_22 rfl (go_getA (pc := 23) fa_32 hm_45 d45_23 rfl (go_iloadN (pc := 26) d45_26 rfl ?_))
      obtain ⟨a27, e2, hf⟩ := Option.bind_eq_some_iff.mp hf
      refine go_laload (pc := 27) (q := 7) ar_7 rfl e2 d45_27 ?_
      refine go_lconst (pc := 28) d45_28 cl_0 (go_lcmp (pc := 29) d45_29 ?_)
      by_cases h3 : a27 = (0 : Int64)
      · replace hf := (if_pos h3).symm.trans hf
        refine go_ifY (pc := 30) (pc' := 35) d45_30 (XT.ll_eq_t h3) j_30_5 ?_
        refine go_iinc (pc := 35) (L' := [.val (.ref 1), .val (.int (v1 + (-1 : Int32)))]) d45_35 rfl ci_m1 rfl (go_goto (pc := 38) (pc' := 18) d45_38 j_38_m20 ?_)
        exact ih (v1 + (-1 : Int32)) s _ hf
      · replace hf := (if_neg h3).symm.trans hf
        refine go_ifN (pc := 30) d45_30 (XT.ll_eq_f h3) ?_
        refine go_iloadN (pc := 33) d45_33 rfl ?_
        cases hf
        exact go_iret (pc := 34) rfl d45_34
set_option maxRecDepth 65536 in
set_option maxHeartbeats 4000000 in
theorem k_largestFreeOrder_ok  : ∀  (s : S)  (o : Int32 × S), k_largestFreeOrder s = some o → Go PP m45 0 [.val (.ref 1), .unset] [] (none, [(8, s)]) (some (.int o.1), (none, [(8, o.2)])) := by
  intro s o hf
  unfold k_largestFreeOrder at hf
  refine go_aloadN (pc := 0) d45_0 rfl (go_getJ (pc := 1) fs_54 hm_45 d45_1 (go_lconst (pc := 4) d45_4 cl_0 (go_lcmp (pc := 5) d45_5 ?_)))
  by_cases h1 : (gL s 2) = (0 : Int64)
  · replace hf := (if_pos h1).symm.trans hf
    refine go_ifN (pc := 6) d45_6 (XT.ll_ne_f h1) ?_
    refine go_iconst (pc := 9) d45_9 ci_m1 ?_
    cases hf
    exact go_iret (pc := 10) rfl d45_10
  · replace hf := (if_neg h1).symm.trans hf
    refine go_ifY (pc := 6) (pc' := 11) d45_6 (XT.ll_ne_t h1) j_6_5 ?_
    refine go_aloadN (pc := 11) d45_11 rfl ?_
    obtain ⟨r12, e2, hf⟩ := Option.bind_eq_some_iff.mp hf
    refine go_priv (pc := 12) (i := 0) (as := []) (rest := []) (w' := (none, [(8, r12)])) lk_0_126 pd_31 rfl oid_0 rfl rfl rfl rfl rfl rfl ⟨rfl, rfl, rfl, rfl, rfl⟩ d45_12 (c_k_refreshRuns s _ e2) ?_
    refine go_bipush (pc := 15) d45_15 cb_6 (go_istoreN (pc := 17) (L' := [.val (.ref 1), .val (.int (6 : Int32))]) d45_17 rfl ?_)
    exact k_largestFreeOrder_18_ok BIG (6 : Int32) r12 _ hf
theorem c_k_largestFreeOrder (s : S) (o : Int32 × S) (hf : k_largestFreeOrder s = some o) : Call PP m45 [.ref 1] (none, [(8, s)]) (some (.int o.1), (none, [(8, o.2)])) := call_of_go pl_0 rfl (fun h => nomatch h) (k_largestFreeOrder_ok s   _ hf)
set_option maxRecDepth 65536 in
set_option maxHeartbeats 4000000 in
theorem h_check_179_ok_0_n1  {q : List Int32} : ∀ (v1 : Int32) (v2 : Int32) (v3 : Int32) (v4 : Int32) (v6 : Int32) (v7 : Int32) (v8 : Int32) (v9 : Int32) (v10 : Int32) (p0 : Int32) (p1 : Int32) (t0 : S) (x5 : Slot) (x11 : Slot) (x12 : Slot) (hx5 : k1 x5) (hx11 : k1 x11) (hx12 : k1 x12) (o : Int32 × S), h_check_179 v1 v2 v3 v4 v6 v7 v8 v9 v10 p0 p1 t0 = some o → Go PP m46 179 [.val (.ref 1), .val (.int v1), .val (.int v2), .val (.int v3), .val (.int v4), x5, .val (.int v6), .val (.int v7), .val (.int v8), .val (.int v9), .val (.int v10), x11, x12] [.int p0, .int p1] (some q, [(8, t0)]) (some (.int o.1), (some q, [(8, o.2)])) := by
  intro v1 v2 v3 v4 v6 v7 v8 v9 v10 p0 p1 t0 x5 x11 x12 hx5 hx11 hx12 o hf
  unfold h_check_179 at hf
  by_cases h1 : p1 = p0
  · replace hf := (if_pos h1).symm.trans hf
    refine go_icN (pc := 179) d46_179 (XT.ii_ne_f h1) ?_
    refine go_iload (pc := 182) d46_182 rfl (go_iconst (pc := 184) d46_184 ci_3 ?_)
    by_cases h2 : (3 : Int32) < v10
    · replace hf := (if_pos h2).symm.trans hf
      refine go_icN (pc := 185) d46_185 (XT.ii_le_f h2) ?_
      refine go_iconst (pc := 188) d46_188 ci_0 ?_
      cases hf
      exact go_zret (pc := 189) rfl d46_189 (show (0 : Int32) = nar .boolean (0 : Int32) by decide)
    · replace hf := (if_neg h2).symm.trans hf
      refine go_icY (pc := 185) (pc' := 190) d46_185 (XT.ii_le_t h2) j_185_5 ?_
      refine go_iload (pc := 190) d46_190 rfl (go_iloadN (pc := 192) d46_192 rfl ?_)
      by_cases h3 : v6 = v2
      · replace hf := (if_pos h3).symm.trans hf
        refine go_icN (pc := 193) d46_193 (XT.ii_ne_f h3) ?_
        refine go_iload (pc := 196) d46_196 rfl (go_iloadN (pc := 198) d46_198 rfl ?_)
        by_cases h4 : v7 = v3
        · replace hf := (if_pos h4).symm.trans hf
          refine go_icN (pc := 199) d46_199 (XT.ii_ne_f h4) ?_
          refine go_iload (pc := 202) d46_202 rfl (go_iload (pc := 204) d46_204 rfl ?_)
          by_cases h5 : v8 = v4
          · replace hf := (if_pos h5).symm.trans hf
            refine go_icN (pc := 206) d46_206 (XT.ii_ne_f h5) ?_
            refine go_iload (pc := 209) d46_209 rfl (go_iloadN (pc := 211) d46_211 rfl ?_)
            by_cases h6 : v9 = v1
            · replace hf := (if_pos h6).symm.trans hf
              refine go_icN (pc := 212) d46_212 (XT.ii_ne_f h6) ?_
              refine go_iconst (pc := 215) d46_215 ci_1 (go_goto (pc := 216) (pc' := 220) d46_216 j_216_4 ?_)
              cases hf
              exact go_zret (pc := 220) rfl d46_220 (show (1 : Int32) = nar .boolean (1 : Int32) by decide)
            · replace hf := (if_neg h6).symm.trans hf
              refine go_icY (pc := 212) (pc' := 219) d46_212 (XT.ii_ne_t h6) j_212_7 ?_
              refine go_iconst (pc := 219) d46_219 ci_0 ?_
              cases hf
              exact go_zret (pc := 220) rfl d46_220 (show (0 : Int32) = nar .boolean (0 : Int32) by decide)
          · replace hf := (if_neg h5).symm.trans hf
            refine go_icY (pc := 206) (pc' := 219) d46_206 (XT.ii_ne_t h5) j_206_13 ?_
            refine go_iconst (pc := 219) d46_219 ci_0 ?_
            cases hf
            exact go_zret (pc := 220) rfl d46_220 (show (0 : Int32) = nar .boolean (0 : Int32) by decide)
        · replace hf := (if_neg h4).symm.trans hf
          refine go_icY (pc := 199) (pc' := 219) d46_199 (XT.ii_ne_t h4) j_199_20 ?_
          refine go_iconst (pc := 219) d46_219 ci_0 ?_
          cases hf
          exact go_zret (pc := 220) rfl d46_220 (show (0 : Int32) = nar .boolean (0 : Int32) by decide)
      · replace hf := (if_neg h3).symm.trans hf
        refine go_icY (pc := 193) (pc' := 219) d46_193 (XT.ii_ne_t h3) j_193_26 ?_
        refine go_iconst (pc := 219) d46_219 ci_0 ?_
        cases hf
        exact go_zret (pc := 220) rfl d46_220 (show (0 : Int32) = nar .boolean (0 : Int32) by decide)
  · replace hf := (if_neg h1).symm.trans hf
    refine go_icY (pc := 179) (pc' := 188) d46_179 (XT.ii_ne_t h1) j_179_9 ?_
    refine go_iconst (pc := 188) d46_188 ci_0 ?_
    cases hf
    exact go_zret (pc := 189) rfl d46_189 (show (0 : Int32) = nar .boolean (0 : Int32) by decide)
set_option maxRecDepth 65536 in
set_option maxHeartbeats 4000000 in
theorem h_check_168_ok_0_n1  {q : List Int32} : ∀ (v1 : Int32) (v2 : Int32) (v3 : Int32) (v4 : Int32) (v6 : Int32) (v7 : Int32) (v8 : Int32) (v9 : Int32) (v10 : Int32) (p0 : Int32) (t0 : S) (x5 : Slot) (x11 : Slot) (x12 : Slot) (hx5 : k1 x5) (hx11 : k1 x11) (hx12 : k1 x12) (o : Int32 × S), h_check_168 v1 v2 v3 v4 v6 v7 v8 v9 v10 p0 t0 = some o → Go PP m46 168 [.val (.ref 1), .val (.int v1), .val (.int v2), .val (.int v3), .val (.int v4), x5, .val (.int v6), .val (.int v7), .val (.int v8), .val (.int v9), .val (.int v10), x11, x12] [.int p0] (some q, [(8, t0)]) (some (.int o.1), (some q, [(8, o.2)])) := by
  intro v1 v2 v3 v4 v6 v7 v8 v9 v10 p0 t0 x5 x11 x12 hx5 hx11 hx12 o hf
  unfold h_check_168 at hf
  refine go_iload (pc := 168) d46_168 rfl (go_iconst (pc := 170) d46_170 ci_m1 ?_)
  by_cases h1 : v10 = (-1 : Int32)
  · refine go_icN (pc := 171) d46_171 (XT.ii_ne_f h1) ?_
    refine go_iconst (pc := 174) d46_174 ci_1 (go_goto (pc := 175) (pc' := 179) d46_175 j_175_4 ?_)
    exact h_check_179_ok_0_n1 v1 v2 v3 v4 v6 v7 v8 v9 v10 (1 : Int32) p0 t0 x5 x11 x12 hx5 hx11 hx12 _ (by simpa only [if_pos h1] using hf)
  · refine go_icY (pc := 171) (pc' := 178) d46_171 (XT.ii_ne_t h1) j_171_7 ?_
    refine go_iconst (pc := 178) d46_178 ci_0 ?_
    exact h_check_179_ok_0_n1 v1 v2 v3 v4 v6 v7 v8 v9 v10 (0 : Int32) p0 t0 x5 x11 x12 hx5 hx11 hx12 _ (by simpa only [if_neg h1] using hf)
set_option maxRecDepth 65536 in
set_option maxHeartbeats 4000000 in
theorem h_check_131_ok_0_n1  {q : List Int32} : ∀ (v1 : Int32) (v2 : Int32) (v3 : Int32) (v4 : Int32) (v5 : Int32) (v6 : Int32) (v7 : Int32) (v8 : Int32) (v9 : Int32) (t0 : S) (x10 : Slot) (x11 : Slot) (x12 : Slot) (hx10 : k1 x10) (hx11 : k1 x11) (hx12 : k1 x12) (o : Int32 × S), h_check_131 v1 v2 v3 v4 v5 v6 v7 v8 v9 t0 = some o → Go PP m46 131 [.val (.ref 1), .val (.int v1), .val (.int v2), .val (.int v3), .val (.int v4), .val (.int v5), .val (.int v6), .val (.int v7), .val (.int v8), .val (.int v9), x10, x11, x12] [] (some q, [(8, t0)]) (some (.int o.1), (some q, [(8, o.2)])) := by
  intro v1 v2 v3 v4 v5 v6 v7 v8 v9 t0 x10 x11 x12 hx10 hx11 hx12 o hf
  unfold h_check_131 at hf
  refine go_aloadN (pc := 131) d46_131 rfl (go_bipush (pc := 132) d46_132 cb_8 ?_)
  obtain ⟨r134, e1, hf⟩ := Option.bind_eq_some_iff.mp hf
  refine go_virt (pc := 134) (i := 0) (as := [.int (8 : Int32)]) (rest := []) (w' := (some q, [(8, t0)])) lk_1_7 pd_9 rfl oid_0 rfl rfl rfl rfl rfl rfl ⟨rfl, rfl, rfl, rfl, rfl⟩ d46_134 (c_k_frameState (8 : Int32) t0 _ e1) ?_
  refine go_iconst (pc := 137) d46_137 ci_m1 ?_
  by_cases h2 : r134 = (-1 : Int32)
  · replace hf := (if_pos h2).symm.trans hf
    refine go_icN (pc := 138) d46_138 (XT.ii_ne_f h2) ?_
    refine go_aloadN (pc := 141) d46_141 rfl ?_
    refine go_virt (pc := 142) (i := 0) (as := []) (rest := []) (w' := (some q, [(8, t0)])) lk_1_19 pd_11 rfl oid_0 rfl rfl rfl rfl rfl rfl ⟨rfl, rfl, rfl, rfl, rfl⟩ d46_142 (c_k_freeCount t0) ?_
    refine go_iload (pc := 145) d46_145 rfl ?_
    by_cases h3 : (k_freeCount t0) = v5
    · replace hf := (if_pos h3).symm.trans hf
      refine go_icY (pc := 147) (pc' := 152) d46_147 (XT.ii_eq_t h3) j_147_5 ?_
      refine go_aloadN (pc := 152) d46_152 rfl ?_
      obtain ⟨r153, e4, hf⟩ := Option.bind_eq_some_iff.mp hf
      refine go_virt (pc := 153) (i := 0) (as := []) (rest := []) (w' := (some q, [(8, r153.2)])) lk_1_23 pd_45 rfl oid_0 rfl rfl rfl rfl rfl rfl ⟨rfl, rfl, rfl, rfl, rfl⟩ d46_153 (c_k_largestFreeOrder t0 _ e4) ?_
      refine go_istore (pc := 156) (L' := [.val (.ref 1), .val (.int v1), .val (.int v2), .val (.int v3), .val (.int v4), .val (.int v5), .val (.int v6), .val (.int v7), .val (.int v8), .val (.int v9), .val (.int r153.1), x11, x12]) d46_156 (stx rfl hx10 rfl) (go_iload (pc := 158) d46_158 rfl ?_)
      by_cases h5 : v5 = 0
      · refine go_ifN (pc := 160) d46_160 (XT.i0_ne_f h5) ?_
        refine go_iconst (pc := 163) d46_163 ci_1 (go_goto (pc := 164) (pc' := 168) d46_164 j_164_4 ?_)
        exact h_check_168_ok_0_n1 v1 v2 v3 v4 v6 v7 v8 v9 r153.1 (1 : Int32) r153.2 (.val (.int v5)) x11 x12 (Or.inr ⟨_, rfl, rfl⟩) hx11 hx12 _ (by simpa only [if_pos h5] using hf)
      · refine go_ifY (pc := 160) (pc' := 167) d46_160 (XT.i0_ne_t h5) j_160_7 ?_
        refine go_iconst (pc := 167) d46_167 ci_0 ?_
        exact h_check_168_ok_0_n1 v1 v2 v3 v4 v6 v7 v8 v9 r153.1 (0 : Int32) r153.2 (.val (.int v5)) x11 x12 (Or.inr ⟨_, rfl, rfl⟩) hx11 hx12 _ (by simpa only [if_neg h5] using hf)
    · replace hf := (if_neg h3).symm.trans hf
      refine go_icN (pc := 147) d46_147 (XT.ii_eq_f h3) ?_
      refine go_iconst (pc := 150) d46_150 ci_0 ?_
      cases hf
      exact go_zret (pc := 151) rfl d46_151 (show (0 : Int32) = nar .boolean (0 : Int32) by decide)
  · replace hf := (if_neg h2).symm.trans hf
    refine go_icY (pc := 138) (pc' := 150) d46_138 (XT.ii_ne_t h2) j_138_12 ?_
    refine go_iconst (pc := 150) d46_150 ci_0 ?_
    cases hf
    exact go_zret (pc := 151) rfl d46_151 (show (0 : Int32) = nar .boolean (0 : Int32) by decide)
def T_h_check_18_0_n1 (q : List Int32) (k18 : Int32 → Int32 → Int32 → Int32 → Int32 → Int32 → Int32 → Int32 → Int32 → Int32 → S → Option (Int32 × S)) : Prop := ∀ (v1 : Int32) (v2 : Int32) (v3 : Int32) (v4 : Int32) (v5 : Int32) (v6 : Int32) (v7 : Int32) (v8 : Int32) (v9 : Int32) (v10 : Int32) (t0 : S) (x11 : Slot) (x12 : Slot) (hx11 : k1 x11) (hx12 : k1 x12) (o : Int32 × S), k18 v1 v2 v3 v4 v5 v6 v7 v8 v9 v10 t0 = some o → Go PP m46 18 [.val (.ref 1), .val (.int v1), .val (.int v2), .val (.int v3), .val (.int v4), .val (.int v5), .val (.int v6), .val (.int v7), .val (.int v8), .val (.int v9), .val (.int v10), x11, x12] [] (some q, [(8, t0)]) (some (.int o.1), (some q, [(8, o.2)]))
set_option maxRecDepth 65536 in
set_option maxHeartbeats 4000000 in
theorem h_check_100_ok_0_n1 {k18 : Int32 → Int32 → Int32 → Int32 → Int32 → Int32 → Int32 → Int32 → Int32 → Int32 → S → Option (Int32 × S)} {q : List Int32} (hk18 : T_h_check_18_0_n1 q k18) : ∀ (v1 : Int32) (v2 : Int32) (v3 : Int32) (v4 : Int32) (v5 : Int32) (v6 : Int32) (v7 : Int32) (v8 : Int32) (v9 : Int32) (v10 : Int32) (v11 : Int32) (v12 : Int32) (t0 : S)  (o : Int32 × S), h_check_100 k18 v1 v2 v3 v4 v5 v6 v7 v8 v9 v10 v11 v12 t0 = some o → Go PP m46 100 [.val (.ref 1), .val (.int v1), .val (.int v2), .val (.int v3), .val (.int v4), .val (.int v5), .val (.int v6), .val (.int v7), .val (.int v8), .val (.int v9), .val (.int v10), .val (.int v11), .val (.int v12)] [] (some q, [(8, t0)]) (some (.int o.1), (some q, [(8, o.2)])) := by
  intro v1 v2 v3 v4 v5 v6 v7 v8 v9 v10 v11 v12 t0 o hf
  unfold h_check_100 at hf
  refine go_iinc (pc := 100) (L' := [.val (.ref 1), .val (.int v1), .val (.int v2), .val (.int v3), .val (.int v4), .val (.int v5), .val (.int (v6 + (1 : Int32))), .val (.int v7), .val (.int v8), .val (.int v9), .val (.int v10), .val (.int v11), .val (.int v12)]) d46_100 rfl ci_1 rfl (go_iload (pc := 103) d46_103 rfl (go_iconst (pc := 105) d46_105 ci_1 ?_))
  by_cases h1 : v12 < (1 : Int32)
  · replace hf := (if_pos h1).symm.trans hf
    refine go_icN (pc := 106) d46_106 (XT.ii_ge_f h1) ?_
    refine go_iconst (pc := 109) d46_109 ci_0 ?_
    cases hf
    exact go_zret (pc := 110) rfl d46_110 (show (0 : Int32) = nar .boolean (0 : Int32) by decide)
  · replace hf := (if_neg h1).symm.trans hf
    refine go_icY (pc := 106) (pc' := 111) d46_106 (XT.ii_ge_t h1) j_106_5 ?_
    refine go_iload (pc := 111) d46_111 rfl (go_iconst (pc := 113) d46_113 ci_2 ?_)
    by_cases h2 : v11 = (2 : Int32)
    · refine go_icN (pc := 114) d46_114 (XT.ii_ne_f h2) ?_
      refine go_iinc (pc := 117) (L' := [.val (.ref 1), .val (.int v1), .val (.int v2), .val (.int v3), .val (.int v4), .val (.int v5), .val (.int (v6 + (1 : Int32))), .val (.int v7), .val (.int (v8 + (1 : Int32))), .val (.int v9), .val (.int v10), .val (.int v11), .val (.int v12)]) d46_117 rfl ci_1 rfl (go_goto (pc := 120) (pc' := 125) d46_120 j_120_5 (go_iinc (pc := 125) (L' := [.val (.ref 1), .val (.int v1), .val (.int v2), .val (.int v3), .val (.int v4), .val (.int v5), .val (.int (v6 + (1 : Int32))), .val (.int v7), .val (.int (v8 + (1 : Int32))), .val (.int v9), .val (.int (v10 + (1 : Int32))), .val (.int v11), .val (.int v12)]) d46_125 rfl ci_1 rfl (go_goto (pc := 128) (pc' := 18) d46_128 j_128_m110 ?_)))
      exact hk18 v1 v2 v3 v4 v5 (v6 + (1 : Int32)) v7 (v8 + (1 : Int32)) v9 (v10 + (1 : Int32)) t0 (.val (.int v11)) (.val (.int v12)) (Or.inr ⟨_, rfl, rfl⟩) (Or.inr ⟨_, rfl, rfl⟩) _ (by simpa only [if_pos h2] using hf)
    · refine go_icY (pc := 114) (pc' := 125) d46_114 (XT.ii_ne_t h2) j_114_11 ?_
      refine go_iinc (pc := 125) (L' := [.val (.ref 1), .val (.int v1), .val (.int v2), .val (.int v3), .val (.int v4), .val (.int v5), .val (.int (v6 + (1 : Int32))), .val (.int v7), .val (.int v8), .val (.int v9), .val (.int (v10 + (1 : Int32))), .val (.int v11), .val (.int v12)]) d46_125 rfl ci_1 rfl (go_goto (pc := 128) (pc' := 18) d46_128 j_128_m110 ?_)
      exact hk18 v1 v2 v3 v4 v5 (v6 + (1 : Int32)) v7 v8 v9 (v10 + (1 : Int32)) t0 (.val (.int v11)) (.val (.int v12)) (Or.inr ⟨_, rfl, rfl⟩) (Or.inr ⟨_, rfl, rfl⟩) _ (by simpa only [if_neg h2] using hf)
set_option maxRecDepth 65536 in
set_option maxHeartbeats 4000000 in
theorem h_check_18_ok_0_n1  {q : List Int32} : ∀ (n : Nat) (v1 : Int32) (v2 : Int32) (v3 : Int32) (v4 : Int32) (v5 : Int32) (v6 : Int32) (v7 : Int32) (v8 : Int32) (v9 : Int32) (v10 : Int32) (t0 : S) (x11 : Slot) (x12 : Slot) (hx11 : k1 x11) (hx12 : k1 x12) (o : Int32 × S), h_check_18 n v1 v2 v3 v4 v5 v6 v7 v8 v9 v10 t0 = some o → Go PP m46 18 [.val (.ref 1), .val (.int v1), .val (.int v2), .val (.int v3), .val (.int v4), .val (.int v5), .val (.int v6), .val (.int v7), .val (.int v8), .val (.int v9), .val (.int v10), x11, x12] [] (some q, [(8, t0)]) (some (.int o.1), (some q, [(8, o.2)])) := by
  intro n
  induction n with
  | zero => intro v1 v2 v3 v4 v5 v6 v7 v8 v9 v10 t0 x11 x12 hx11 hx12 o hf; exact nomatch hf
  | succ n ih =>
    intro v1 v2 v3 v4 v5 v6 v7 v8 v9 v10 t0 x11 x12 hx11 hx12 o hf
    unfold h_check_18 at hf
    refine go_iload (pc := 18) d46_18 rfl (go_bipush (pc := 20) d46_20 cb_8 ?_)
    by_cases h1 : v10 < (8 : Int32)
    · replace hf := (if_pos h1).symm.trans hf
      refine go_icN (pc := 22) d46_22 (XT.ii_ge_f h1) ?_
      refine go_aloadN (pc := 25) d46_25 rfl (go_iload (pc := 26) d46_26 rfl ?_)
      obtain ⟨r28, e2, hf⟩ := Option.bind_eq_some_iff.mp hf
      refine go_virt (pc := 28) (i := 0) (as := [.int v10]) (rest := []) (w' := (some q, [(8, t0)])) lk_1_7 pd_9 rfl oid_0 rfl rfl rfl rfl rfl rfl ⟨rfl, rfl, rfl, rfl, rfl⟩ d46_28 (c_k_frameState v10 t0 _ e2) ?_
      refine go_istore (pc := 31) (L' := [.val (.ref 1), .val (.int v1), .val (.int v2), .val (.int v3), .val (.int v4), .val (.int v5), .val (.int v6), .val (.int v7), .val (.int v8), .val (.int v9), .val (.int v10), .val (.int r28), x12]) d46_31 (stx rfl hx11 rfl) (go_aloadN (pc := 33) d46_33 rfl (go_iload (pc := 34) d46_34 rfl ?_))
      obtain ⟨r36, e3, hf⟩ := Option.bind_eq_some_iff.mp hf
      refine go_virt (pc := 36) (i := 0) (as := [.int v10]) (rest := []) (w' := (some q, [(8, t0)])) lk_1_13 pd_20 rfl oid_0 rfl rfl rfl rfl rfl rfl ⟨rfl, rfl, rfl, rfl, rfl⟩ d46_36 (c_k_mapCount v10 t0 _ e3) ?_
      refine go_istore (pc := 39) (L' := [.val (.ref 1), .val (.int v1), .val (.int v2), .val (.int v3), .val (.int v4), .val (.int v5), .val (.int v6), .val (.int v7), .val (.int v8), .val (.int v9), .val (.int v10), .val (.int r28), .val (.int r36)]) d46_39 (stx rfl hx12 rfl) (go_iload (pc := 41) d46_41 rfl (go_iload (pc := 43) d46_43 rfl (go_iadd (pc := 45) d46_45 (go_istore (pc := 46) (L' := [.val (.ref 1), .val (.int v1), .val (.int v2), .val (.int v3), .val (.int v4), .val (.int v5), .val (.int v6), .val (.int v7), .val (.int v8), .val (.int (v9 + r36)), .val (.int v10), .val (.int r28), .val (.int r36)]) d46_46 rfl (go_iload (pc := 48) d46_48 rfl ?_)))))
      by_cases h4 : r28 = 0
      · replace hf := (if_pos h4).symm.trans hf
        refine go_ifN (pc := 50) d46_50 (XT.i0_ne_f h4) ?_
        refine go_iinc (pc := 53) (L' := [.val (.ref 1), .val (.int v1), .val (.int v2), .val (.int v3), .val (.int v4), .val (.int (v5 + (1 : Int32))), .val (.int v6), .val (.int v7), .val (.int v8), .val (.int (v9 + r36)), .val (.int v10), .val (.int r28), .val (.int r36)]) d46_53 rfl ci_1 rfl (go_iload (pc := 56) d46_56 rfl ?_)
        by_cases h9 : r36 = 0
        · replace hf := (if_pos h9).symm.trans hf
          refine go_ifN (pc := 58) d46_58 (XT.i0_ne_f h9) ?_
          refine go_aloadN (pc := 61) d46_61 rfl (go_iload (pc := 62) d46_62 rfl ?_)
          obtain ⟨r64, e10, hf⟩ := Option.bind_eq_some_iff.mp hf
          refine go_virt (pc := 64) (i := 0) (as := [.int v10]) (rest := []) (w' := (some q, [(8, t0)])) lk_1_16 pd_21 rfl oid_0 rfl rfl rfl rfl rfl rfl ⟨rfl, rfl, rfl, rfl, rfl⟩ d46_64 (c_k_frameValue v10 t0 _ e10) ?_
          by_cases h11 : r64 = 0
          · replace hf := (if_pos h11).symm.trans hf
            refine go_ifY (pc := 67) (pc' := 125) d46_67 (XT.i0_eq_t h11) j_67_58 ?_
            refine go_iinc (pc := 125) (L' := [.val (.ref 1), .val (.int v1), .val (.int v2), .val (.int v3), .val (.int v4), .val (.int (v5 + (1 : Int32))), .val (.int v6), .val (.int v7), .val (.int v8), .val (.int (v9 + r36)), .val (.int (v10 + (1 : Int32))), .val (.int r28), .val (.int r36)]) d46_125 rfl ci_1 rfl (go_goto (pc := 128) (pc' := 18) d46_128 j_128_m110 ?_)
            exact ih v1 v2 v3 v4 (v5 + (1 : Int32)) v6 v7 v8 (v9 + r36) (v10 + (1 : Int32)) t0 (.val (.int r28)) (.val (.int r36)) (Or.inr ⟨_, rfl, rfl⟩) (Or.inr ⟨_, rfl, rfl⟩) _ hf
          · replace hf := (if_neg h11).symm.trans hf
            refine go_ifN (pc := 67) d46_67 (XT.i0_eq_f h11) ?_
            refine go_iconst (pc := 70) d46_70 ci_0 ?_
            cases hf
            exact go_zret (pc := 71) rfl d46_71 (show (0 : Int32) = nar .boolean (0 : Int32) by decide)
        · replace hf := (if_neg h9).symm.trans hf
          refine go_ifY (pc := 58) (pc' := 70) d46_58 (XT.i0_ne_t h9) j_58_12 ?_
          refine go_iconst (pc := 70) d46_70 ci_0 ?_
          cases hf
          exact go_zret (pc := 71) rfl d46_71 (show (0 : Int32) = nar .boolean (0 : Int32) by decide)
      · replace hf := (if_neg h4).symm.trans hf
        refine go_ifY (pc := 50) (pc' := 72) d46_50 (XT.i0_ne_t h4) j_50_22 ?_
        refine go_iload (pc := 72) d46_72 rfl (go_iconst (pc := 74) d46_74 ci_3 ?_)
        by_cases h5 : r28 = (3 : Int32)
        · replace hf := (if_pos h5).symm.trans hf
          refine go_icN (pc := 75) d46_75 (XT.ii_ne_f h5) ?_
          refine go_iinc (pc := 78) (L' := [.val (.ref 1), .val (.int v1), .val (.int v2), .val (.int v3), .val (.int v4), .val (.int v5), .val (.int v6), .val (.int (v7 + (1 : Int32))), .val (.int v8), .val (.int (v9 + r36)), .val (.int v10), .val (.int r28), .val (.int r36)]) d46_78 rfl ci_1 rfl (go_iload (pc := 81) d46_81 rfl ?_)
          by_cases h8 : r36 = 0
          · replace hf := (if_pos h8).symm.trans hf
            refine go_ifY (pc := 83) (pc' := 125) d46_83 (XT.i0_eq_t h8) j_83_42 ?_
            refine go_iinc (pc := 125) (L' := [.val (.ref 1), .val (.int v1), .val (.int v2), .val (.int v3), .val (.int v4), .val (.int v5), .val (.int v6), .val (.int (v7 + (1 : Int32))), .val (.int v8), .val (.int (v9 + r36)), .val (.int (v10 + (1 : Int32))), .val (.int r28), .val (.int r36)]) d46_125 rfl ci_1 rfl (go_goto (pc := 128) (pc' := 18) d46_128 j_128_m110 ?_)
            exact ih v1 v2 v3 v4 v5 v6 (v7 + (1 : Int32)) v8 (v9 + r36) (v10 + (1 : Int32)) t0 (.val (.int r28)) (.val (.int r36)) (Or.inr ⟨_, rfl, rfl⟩) (Or.inr ⟨_, rfl, rfl⟩) _ hf
          · replace hf := (if_neg h8).symm.trans hf
            refine go_ifN (pc := 83) d46_83 (XT.i0_eq_f h8) ?_
            refine go_iconst (pc := 86) d46_86 ci_0 ?_
            cases hf
            exact go_zret (pc := 87) rfl d46_87 (show (0 : Int32) = nar .boolean (0 : Int32) by decide)
        · replace hf := (if_neg h5).symm.trans hf
          refine go_icY (pc := 75) (pc' := 88) d46_75 (XT.ii_ne_t h5) j_75_13 ?_
          refine go_iload (pc := 88) d46_88 rfl (go_iconst (pc := 90) d46_90 ci_1 ?_)
          by_cases h6 : r28 = (1 : Int32)
          · replace hf := (if_pos h6).symm.trans hf
            refine go_icY (pc := 91) (pc' := 100) d46_91 (XT.ii_eq_t h6) j_91_9 ?_
            exact h_check_100_ok_0_n1 ih v1 v2 v3 v4 v5 v6 v7 v8 (v9 + r36) v10 r28 r36 t0 _ hf
          · replace hf := (if_neg h6).symm.trans hf
            refine go_icN (pc := 91) d46_91 (XT.ii_eq_f h6) ?_
            refine go_iload (pc := 94) d46_94 rfl (go_iconst (pc := 96) d46_96 ci_2 ?_)
            by_cases h7 : r28 = (2 : Int32)
            · replace hf := (if_pos h7).symm.trans hf
              refine go_icN (pc := 97) d46_97 (XT.ii_ne_f h7) ?_
              exact h_check_100_ok_0_n1 ih v1 v2 v3 v4 v5 v6 v7 v8 (v9 + r36) v10 r28 r36 t0 _ hf
            · replace hf := (if_neg h7).symm.trans hf
              refine go_icY (pc := 97) (pc' := 123) d46_97 (XT.ii_ne_t h7) j_97_26 ?_
              refine go_iconst (pc := 123) d46_123 ci_0 ?_
              cases hf
              exact go_zret (pc := 124) rfl d46_124 (show (0 : Int32) = nar .boolean (0 : Int32) by decide)
    · replace hf := (if_neg h1).symm.trans hf
      refine go_icY (pc := 22) (pc' := 131) d46_22 (XT.ii_ge_t h1) j_22_109 ?_
      exact h_check_131_ok_0_n1 v1 v2 v3 v4 v5 v6 v7 v8 v9 t0 (.val (.int v10)) x11 x12 (Or.inr ⟨_, rfl, rfl⟩) hx11 hx12 _ hf
set_option maxRecDepth 65536 in
set_option maxHeartbeats 4000000 in
theorem h_check_ok_0_n1  {q : List Int32} : ∀ (v1 : Int32) (v2 : Int32) (v3 : Int32) (v4 : Int32) (t0 : S)  (o : Int32 × S), h_check v1 v2 v3 v4 t0 = some o → Go PP m46 0 [.val (.ref 1), .val (.int v1), .val (.int v2), .val (.int v3), .val (.int v4), .unset, .unset, .unset, .unset, .unset, .unset, .unset, .unset] [] (some q, [(8, t0)]) (some (.int o.1), (some q, [(8, o.2)])) := by
  intro v1 v2 v3 v4 t0 o hf
  unfold h_check at hf
  refine go_iconst (pc := 0) d46_0 ci_0 (go_istore (pc := 1) (L' := [.val (.ref 1), .val (.int v1), .val (.int v2), .val (.int v3), .val (.int v4), .val (.int (0 : Int32)), .unset, .unset, .unset, .unset, .unset, .unset, .unset]) d46_1 rfl (go_iconst (pc := 3) d46_3 ci_0 (go_istore (pc := 4) (L' := [.val (.ref 1), .val (.int v1), .val (.int v2), .val (.int v3), .val (.int v4), .val (.int (0 : Int32)), .val (.int (0 : Int32)), .unset, .unset, .unset, .unset, .unset, .unset]) d46_4 rfl (go_iconst (pc := 6) d46_6 ci_0 (go_istore (pc := 7) (L' := [.val (.ref 1), .val (.int v1), .val (.int v2), .val (.int v3), .val (.int v4), .val (.int (0 : Int32)), .val (.int (0 : Int32)), .val (.int (0 : Int32)), .unset, .unset, .unset, .unset, .unset]) d46_7 rfl (go_iconst (pc := 9) d46_9 ci_0 (go_istore (pc := 10) (L' := [.val (.ref 1), .val (.int v1), .val (.int v2), .val (.int v3), .val (.int v4), .val (.int (0 : Int32)), .val (.int (0 : Int32)), .val (.int (0 : Int32)), .val (.int (0 : Int32)), .unset, .unset, .unset, .unset]) d46_10 rfl ?_)))))))
  refine go_iconst (pc := 12) d46_12 ci_0 (go_istore (pc := 13) (L' := [.val (.ref 1), .val (.int v1), .val (.int v2), .val (.int v3), .val (.int v4), .val (.int (0 : Int32)), .val (.int (0 : Int32)), .val (.int (0 : Int32)), .val (.int (0 : Int32)), .val (.int (0 : Int32)), .unset, .unset, .unset]) d46_13 rfl (go_iconst (pc := 15) d46_15 ci_0 (go_istore (pc := 16) (L' := [.val (.ref 1), .val (.int v1), .val (.int v2), .val (.int v3), .val (.int v4), .val (.int (0 : Int32)), .val (.int (0 : Int32)), .val (.int (0 : Int32)), .val (.int (0 : Int32)), .val (.int (0 : Int32)), .val (.int (0 : Int32)), .unset, .unset]) d46_16 rfl ?_)))
  exact h_check_18_ok_0_n1 BIG v1 v2 v3 v4 (0 : Int32) (0 : Int32) (0 : Int32) (0 : Int32) (0 : Int32) (0 : Int32) t0 .unset .unset (Or.inl rfl) (Or.inl rfl) _ hf
theorem c_h_check_0_n1 (v1 : Int32) (v2 : Int32) (v3 : Int32) (v4 : Int32) (t0 : S) (q : List Int32) (o : Int32 × S) (hf : h_check v1 v2 v3 v4 t0 = some o) : Call PP m46 [.ref 1, .int v1, .int v2, .int v3, .int v4] (some q, [(8, t0)]) (some (.int o.1), (some q, [(8, o.2)])) := call_of_go pl_1 rfl (fun h => nomatch h) (h_check_ok_0_n1 v1 v2 v3 v4 t0   _ hf)
def T_law_24 (k24 : Int32 → Int32 → Int32 → Int32 → Int32 → List Int32 → S → Option (Int32 × S)) : Prop := ∀ (v2 : Int32) (v3 : Int32) (v4 : Int32) (v5 : Int32) (v6 : Int32) (q : List Int32) (t0 : S) (x7 : Slot) (x8 : Slot) (x9 : Slot) (x10 : Slot) (x11 : Slot) (x12 : Slot) (x13 : Slot) (x14 : Slot) (x15 : Slot) (x16 : Slot) (x17 : Slot) (x18 : Slot) (hx7 : k1 x7) (hx8 : k1 x8) (hx9 : k1 x9) (hx10 : k1 x10) (hx11 : k1 x11) (hx12 : k1 x12) (hx13 : k1 x13) (hx14 : k1 x14) (hx15 : k1 x15) (hx16 : k1 x16) (hx17 : k1 x17) (hx18 : k1 x18) (o : Int32 × S), k24 v2 v3 v4 v5 v6 q t0 = some o → Go PP m47 24 [.val (.ref 0), .val (.ref 1), .val (.int v2), .val (.int v3), .val (.int v4), .val (.int v5), .val (.int v6), x7, x8, x9, x10, x11, x12, x13, x14, x15, x16, x17, x18] [] (some q, [(8, t0)]) (some (.int o.1), (some q, [(8, o.2)]))
set_option maxRecDepth 65536 in
set_option maxHeartbeats 4000000 in
theorem law_811_ok {k24 : Int32 → Int32 → Int32 → Int32 → Int32 → List Int32 → S → Option (Int32 × S)} (hk24 : T_law_24 k24) : ∀ (v2 : Int32) (v3 : Int32) (v4 : Int32) (v5 : Int32) (v6 : Int32) (q : List Int32) (t0 : S) (x7 : Slot) (x8 : Slot) (x9 : Slot) (x10 : Slot) (x11 : Slot) (x12 : Slot) (x13 : Slot) (x14 : Slot) (x15 : Slot) (x16 : Slot) (x17 : Slot) (x18 : Slot) (hx7 : k1 x7) (hx8 : k1 x8) (hx9 : k1 x9) (hx10 : k1 x10) (hx11 : k1 x11) (hx12 : k1 x12) (hx13 : k1 x13) (hx14 : k1 x14) (hx15 : k1 x15) (hx16 : k1 x16) (hx17 : k1 x17) (hx18 : k1 x18) (o : Int32 × S), law_811 k24 v2 v3 v4 v5 v6 q t0 = some o → Go PP m47 811 [.val (.ref 0), .val (.ref 1), .val (.int v2), .val (.int v3), .val (.int v4), .val (.int v5), .val (.int v6), x7, x8, x9, x10, x11, x12, x13, x14, x15, x16, x17, x18] [] (some q, [(8, t0)]) (some (.int o.1), (some q, [(8, o.2)])) := by
  intro v2 v3 v4 v5 v6 q t0 x7 x8 x9 x10 x11 x12 x13 x14 x15 x16 x17 x18 hx7 hx8 hx9 hx10 hx11 hx12 hx13 hx14 hx15 hx16 hx17 hx18 o hf
  unfold law_811 at hf
  refine go_aloadN (pc := 811) d47_811 rfl (go_iloadN (pc := 812) d47_812 rfl (go_iloadN (pc := 813) d47_813 rfl (go_iload (pc := 814) d47_814 rfl (go_iload (pc := 816) d47_816 rfl ?_))))
  obtain ⟨r818, e1, hf⟩ := Option.bind_eq_some_iff.mp hf
  refine go_stat (pc := 818) (as := [.ref 1, .int v2, .int v3, .int v4, .int v5]) (rest := []) (w' := (some q, [(8, r818.2)])) lk_1_67 pd_46 rfl rfl ⟨Nat.le_of_ble_eq_true rfl, Nat.le_of_ble_eq_true rfl⟩ ⟨rfl, rfl, rfl⟩ ⟨rfl, rfl, rfl, rfl, rfl⟩ d47_818 (c_h_check_0_n1 v2 v3 v4 v5 t0 q _ e1) ?_
  by_cases h2 : r818.1 = 0
  · replace hf := (if_pos h2).symm.trans hf
    refine go_ifN (pc := 821) d47_821 (XT.i0_ne_f h2) ?_
    refine go_iconst (pc := 824) d47_824 ci_0 ?_
    cases hf
    exact go_zret (pc := 825) rfl d47_825 (show (0 : Int32) = nar .boolean (0 : Int32) by decide)
  · replace hf := (if_neg h2).symm.trans hf
    refine go_ifY (pc := 821) (pc' := 826) d47_821 (XT.i0_ne_t h2) j_821_5 ?_
    refine go_iinc (pc := 826) (L' := [.val (.ref 0), .val (.ref 1), .val (.int v2), .val (.int v3), .val (.int v4), .val (.int v5), .val (.int (v6 + (4 : Int32))), x7, x8, x9, x10, x11, x12, x13, x14, x15, x16, x17, x18]) d47_826 rfl ci_4 rfl (go_goto (pc := 829) (pc' := 24) d47_829 j_829_m805 ?_)
    exact hk24 v2 v3 v4 v5 (v6 + (4 : Int32)) q r818.2 x7 x8 x9 x10 x11 x12 x13 x14 x15 x16 x17 x18 hx7 hx8 hx9 hx10 hx11 hx12 hx13 hx14 hx15 hx16 hx17 hx18 _ hf
set_option maxRecDepth 65536 in
set_option maxHeartbeats 4000000 in
theorem law_806_ok {k24 : Int32 → Int32 → Int32 → Int32 → Int32 → List Int32 → S → Option (Int32 × S)} (hk24 : T_law_24 k24) : ∀ (v2 : Int32) (v3 : Int32) (v4 : Int32) (v5 : Int32) (v6 : Int32) (p0 : Int32) (p1 : Int32) (q : List Int32) (t0 : S) (x7 : Slot) (x8 : Slot) (x9 : Slot) (x10 : Slot) (x11 : Slot) (x12 : Slot) (x13 : Slot) (x14 : Slot) (x15 : Slot) (x16 : Slot) (x17 : Slot) (x18 : Slot) (hx7 : k1 x7) (hx8 : k1 x8) (hx9 : k1 x9) (hx10 : k1 x10) (hx11 : k1 x11) (hx12 : k1 x12) (hx13 : k1 x13) (hx14 : k1 x14) (hx15 : k1 x15) (hx16 : k1 x16) (hx17 : k1 x17) (hx18 : k1 x18) (o : Int32 × S), law_806 k24 v2 v3 v4 v5 v6 p0 p1 q t0 = some o → Go PP m47 806 [.val (.ref 0), .val (.ref 1), .val (.int v2), .val (.int v3), .val (.int v4), .val (.int v5), .val (.int v6), x7, x8, x9, x10, x11, x12, x13, x14, x15, x16, x17, x18] [.int p0, .int p1] (some q, [(8, t0)]) (some (.int o.1), (some q, [(8, o.2)])) := by
  intro v2 v3 v4 v5 v6 p0 p1 q t0 x7 x8 x9 x10 x11 x12 x13 x14 x15 x16 x17 x18 hx7 hx8 hx9 hx10 hx11 hx12 hx13 hx14 hx15 hx16 hx17 hx18 o hf
  unfold law_806 at hf
  by_cases h1 : p0 < p1
  · replace hf := (if_pos h1).symm.trans hf
    refine go_icN (pc := 806) d47_806 (XT.ii_le_f h1) ?_
    refine go_iconst (pc := 809) d47_809 ci_0 ?_
    cases hf
    exact go_zret (pc := 810) rfl d47_810 (show (0 : Int32) = nar .boolean (0 : Int32) by decide)
  · replace hf := (if_neg h1).symm.trans hf
    refine go_icY (pc := 806) (pc' := 811) d47_806 (XT.ii_le_t h1) j_806_5 ?_
    exact law_811_ok hk24 v2 v3 v4 v5 v6 q t0 x7 x8 x9 x10 x11 x12 x13 x14 x15 x16 x17 x18 hx7 hx8 hx9 hx10 hx11 hx12 hx13 hx14 hx15 hx16 hx17 hx18 _ hf
set_option maxRecDepth 65536 in
set_option maxHeartbeats 4000000 in
theorem law_768_ok {k24 : Int32 → Int32 → Int32 → Int32 → Int32 → List Int32 → S → Option (Int32 × S)} (hk24 : T_law_24 k24) : ∀ (v2 : Int32) (v3 : Int32) (v4 : Int32) (v5 : Int32) (v6 : Int32) (q : List Int32) (t0 : S) (x7 : Slot) (x8 : Slot) (x9 : Slot) (x10 : Slot) (x11 : Slot) (x12 : Slot) (x13 : Slot) (x14 : Slot) (x15 : Slot) (x16 : Slot) (x17 : Slot) (x18 : Slot) (hx7 : k1 x7) (hx8 : k1 x8) (hx9 : k1 x9) (hx10 : k1 x10) (hx11 : k1 x11) (hx12 : k1 x12) (hx13 : k1 x13) (hx14 : k1 x14) (hx15 : k1 x15) (hx16 : k1 x16) (hx17 : k1 x17) (hx18 : k1 x18) (o : Int32 × S), law_768 k24 v2 v3 v4 v5 v6 q t0 = some o → Go PP m47 768 [.val (.ref 0), .val (.ref 1), .val (.int v2), .val (.int v3), .val (.int v4), .val (.int v5), .val (.int v6), x7, x8, x9, x10, x11, x12, x13, x14, x15, x16, x17, x18] [] (some q, [(8, t0)]) (some (.int o.1), (some q, [(8, o.2)])) := by
  intro v2 v3 v4 v5 v6 q t0 x7 x8 x9 x10 x11 x12 x13 x14 x15 x16 x17 x18 hx7 hx8 hx9 hx10 hx11 hx12 hx13 hx14 hx15 hx16 hx17 hx18 o hf
  unfold law_768 at hf
  refine go_goto (pc := 768) (pc' := 811) d47_768 j_768_43 ?_
  exact law_811_ok hk24 v2 v3 v4 v5 v6 q t0 x7 x8 x9 x10 x11 x12 x13 x14 x15 x16 x17 x18 hx7 hx8 hx9 hx10 hx11 hx12 hx13 hx14 hx15 hx16 hx17 hx18 _ hf
set_option maxRecDepth 65536 in
set_option maxHeartbeats 4000000 in
theorem law_755_ok {k24 : Int32 → Int32 → Int32 → Int32 → Int32 → List Int32 → S → Option (Int32 × S)} (hk24 : T_law_24 k24) : ∀ (v2 : Int32) (v3 : Int32) (v4 : Int32) (v5 : Int32) (v6 : Int32) (v16 : Int32) (p0 : Int32) (p1 : Int32) (q : List Int32) (t0 : S) (x7 : Slot) (x8 : Slot) (x9 : Slot) (x10 : Slot) (x11 : Slot) (x12 : Slot) (x13 : Slot) (x14 : Slot) (x15 : Slot) (x17 : Slot) (x18 : Slot) (hx7 : k1 x7) (hx8 : k1 x8) (hx9 : k1 x9) (hx10 : k1 x10) (hx11 : k1 x11) (hx12 : k1 x12) (hx13 : k1 x13) (hx14 : k1 x14) (hx15 : k1 x15) (hx17 : k1 x17) (hx18 : k1 x18) (o : Int32 × S), law_755 k24 v2 v3 v4 v5 v6 v16 p0 p1 q t0 = some o → Go PP m47 755 [.val (.ref 0), .val (.ref 1), .val (.int v2), .val (.int v3), .val (.int v4), .val (.int v5), .val (.int v6), x7, x8, x9, x10, x11, x12, x13, x14, x15, .val (.int v16), x17, x18] [.int p0, .int p1] (some q, [(8, t0)]) (some (.int o.1), (some q, [(8, o.2)])) := by
  intro v2 v3 v4 v5 v6 v16 p0 p1 q t0 x7 x8 x9 x10 x11 x12 x13 x14 x15 x17 x18 hx7 hx8 hx9 hx10 hx11 hx12 hx13 hx14 hx15 hx17 hx18 o hf
  unfold law_755 at hf
  by_cases h1 : p1 = p0
  · replace hf := (if_pos h1).symm.trans hf
    refine go_icY (pc := 755) (pc' := 760) d47_755 (XT.ii_eq_t h1) j_755_5 ?_
    refine go_iload (pc := 760) d47_760 rfl ?_
    by_cases h2 : v16 = 0
    · refine go_ifY (pc := 762) (pc' := 768) d47_762 (XT.i0_eq_t h2) j_762_6 ?_
      exact law_768_ok hk24 v2 v3 v4 v5 v6 q t0 x7 x8 x9 x10 x11 x12 x13 x14 x15 (.val (.int v16)) x17 x18 hx7 hx8 hx9 hx10 hx11 hx12 hx13 hx14 hx15 (Or.inr ⟨_, rfl, rfl⟩) hx17 hx18 _ (by simpa only [if_pos h2] using hf)
    · refine go_ifN (pc := 762) d47_762 (XT.i0_eq_f h2) ?_
      refine go_iinc (pc := 765) (L' := [.val (.ref 0), .val (.ref 1), .val (.int v2), .val (.int v3), .val (.int (v4 + (-1 : Int32))), .val (.int v5), .val (.int v6), x7, x8, x9, x10, x11, x12, x13, x14, x15, .val (.int v16), x17, x18]) d47_765 rfl ci_m1 rfl ?_
      exact law_768_ok hk24 v2 v3 (v4 + (-1 : Int32)) v5 v6 q t0 x7 x8 x9 x10 x11 x12 x13 x14 x15 (.val (.int v16)) x17 x18 hx7 hx8 hx9 hx10 hx11 hx12 hx13 hx14 hx15 (Or.inr ⟨_, rfl, rfl⟩) hx17 hx18 _ (by simpa only [if_neg h2] using hf)
  · replace hf := (if_neg h1).symm.trans hf
    refine go_icN (pc := 755) d47_755 (XT.ii_eq_f h1) ?_
    refine go_iconst (pc := 758) d47_758 ci_0 ?_
    cases hf
    exact go_zret (pc := 759) rfl d47_759 (show (0 : Int32) = nar .boolean (0 : Int32) by decide)
set_option maxRecDepth 65536 in
set_option maxHeartbeats 4000000 in
theorem law_724_ok {k24 : Int32 → Int32 → Int32 → Int32 → Int32 → List Int32 → S → Option (Int32 × S)} (hk24 : T_law_24 k24) : ∀ (v2 : Int32) (v3 : Int32) (v4 : Int32) (v5 : Int32) (v6 : Int32) (q : List Int32) (t0 : S) (x7 : Slot) (x8 : Slot) (x9 : Slot) (x10 : Slot) (x11 : Slot) (x12 : Slot) (x13 : Slot) (x14 : Slot) (x15 : Slot) (x16 : Slot) (x17 : Slot) (x18 : Slot) (hx7 : k1 x7) (hx8 : k1 x8) (hx9 : k1 x9) (hx10 : k1 x10) (hx11 : k1 x11) (hx12 : k1 x12) (hx13 : k1 x13) (hx14 : k1 x14) (hx15 : k1 x15) (hx16 : k1 x16) (hx17 : k1 x17) (hx18 : k1 x18) (o : Int32 × S), law_724 k24 v2 v3 v4 v5 v6 q t0 = some o → Go PP m47 724 [.val (.ref 0), .val (.ref 1), .val (.int v2), .val (.int v3), .val (.int v4), .val (.int v5), .val (.int v6), x7, x8, x9, x10, x11, x12, x13, x14, x15, x16, x17, x18] [] (some q, [(8, t0)]) (some (.int o.1), (some q, [(8, o.2)])) := by
  intro v2 v3 v4 v5 v6 q t0 x7 x8 x9 x10 x11 x12 x13 x14 x15 x16 x17 x18 hx7 hx8 hx9 hx10 hx11 hx12 hx13 hx14 hx15 hx16 hx17 hx18 o hf
  unfold law_724 at hf
  refine go_goto (pc := 724) (pc' := 811) d47_724 j_724_87 ?_
  exact law_811_ok hk24 v2 v3 v4 v5 v6 q t0 x7 x8 x9 x10 x11 x12 x13 x14 x15 x16 x17 x18 hx7 hx8 hx9 hx10 hx11 hx12 hx13 hx14 hx15 hx16 hx17 hx18 _ hf
set_option maxRecDepth 65536 in
set_option maxHeartbeats 4000000 in
theorem law_650_ok {k24 : Int32 → Int32 → Int32 → Int32 → Int32 → List Int32 → S → Option (Int32 × S)} (hk24 : T_law_24 k24) : ∀ (v2 : Int32) (v3 : Int32) (v4 : Int32) (v5 : Int32) (v6 : Int32) (q : List Int32) (t0 : S) (x7 : Slot) (x8 : Slot) (x9 : Slot) (x10 : Slot) (x11 : Slot) (x12 : Slot) (x13 : Slot) (x14 : Slot) (x15 : Slot) (x16 : Slot) (x17 : Slot) (x18 : Slot) (hx7 : k1 x7) (hx8 : k1 x8) (hx9 : k1 x9) (hx10 : k1 x10) (hx11 : k1 x11) (hx12 : k1 x12) (hx13 : k1 x13) (hx14 : k1 x14) (hx15 : k1 x15) (hx16 : k1 x16) (hx17 : k1 x17) (hx18 : k1 x18) (o : Int32 × S), law_650 k24 v2 v3 v4 v5 v6 q t0 = some o → Go PP m47 650 [.val (.ref 0), .val (.ref 1), .val (.int v2), .val (.int v3), .val (.int v4), .val (.int v5), .val (.int v6), x7, x8, x9, x10, x11, x12, x13, x14, x15, x16, x17, x18] [] (some q, [(8, t0)]) (some (.int o.1), (some q, [(8, o.2)])) := by
  intro v2 v3 v4 v5 v6 q t0 x7 x8 x9 x10 x11 x12 x13 x14 x15 x16 x17 x18 hx7 hx8 hx9 hx10 hx11 hx12 hx13 hx14 hx15 hx16 hx17 hx18 o hf
  unfold law_650 at hf
  refine go_goto (pc := 650) (pc' := 811) d47_650 j_650_161 ?_
  exact law_811_ok hk24 v2 v3 v4 v5 v6 q t0 x7 x8 x9 x10 x11 x12 x13 x14 x15 x16 x17 x18 hx7 hx8 hx9 hx10 hx11 hx12 hx13 hx14 hx15 hx16 hx17 hx18 _ hf
set_option maxRecDepth 65536 in
set_option maxHeartbeats 4000000 in
theorem law_637_ok {k24 : Int32 → Int32 → Int32 → Int32 → Int32 → List Int32 → S → Option (Int32 × S)} (hk24 : T_law_24 k24) : ∀ (v2 : Int32) (v3 : Int32) (v4 : Int32) (v5 : Int32) (v6 : Int32) (v16 : Int32) (p0 : Int32) (p1 : Int32) (q : List Int32) (t0 : S) (x7 : Slot) (x8 : Slot) (x9 : Slot) (x10 : Slot) (x11 : Slot) (x12 : Slot) (x13 : Slot) (x14 : Slot) (x15 : Slot) (x17 : Slot) (x18 : Slot) (hx7 : k1 x7) (hx8 : k1 x8) (hx9 : k1 x9) (hx10 : k1 x10) (hx11 : k1 x11) (hx12 : k1 x12) (hx13 : k1 x13) (hx14 : k1 x14) (hx15 : k1 x15) (hx17 : k1 x17) (hx18 : k1 x18) (o : Int32 × S), law_637 k24 v2 v3 v4 v5 v6 v16 p0 p1 q t0 = some o → Go PP m47 637 [.val (.ref 0), .val (.ref 1), .val (.int v2), .val (.int v3), .val (.int v4), .val (.int v5), .val (.int v6), x7, x8, x9, x10, x11, x12, x13, x14, x15, .val (.int v16), x17, x18] [.int p0, .int p1] (some q, [(8, t0)]) (some (.int o.1), (some q, [(8, o.2)])) := by
  intro v2 v3 v4 v5 v6 v16 p0 p1 q t0 x7 x8 x9 x10 x11 x12 x13 x14 x15 x17 x18 hx7 hx8 hx9 hx10 hx11 hx12 hx13 hx14 hx15 hx17 hx18 o hf
  unfold law_637 at hf
  by_cases h1 : p1 = p0
  · replace hf := (if_pos h1).symm.trans hf
    refine go_icY (pc := 637) (pc' := 642) d47_637 (XT.ii_eq_t h1) j_637_5 ?_
    refine go_iload (pc := 642) d47_642 rfl ?_
    by_cases h2 : v16 = 0
    · refine go_ifY (pc := 644) (pc' := 650) d47_644 (XT.i0_eq_t h2) j_644_6 ?_
      exact law_650_ok hk24 v2 v3 v4 v5 v6 q t0 x7 x8 x9 x10 x11 x12 x13 x14 x15 (.val (.int v16)) x17 x18 hx7 hx8 hx9 hx10 hx11 hx12 hx13 hx14 hx15 (Or.inr ⟨_, rfl, rfl⟩) hx17 hx18 _ (by simpa only [if_pos h2] using hf)
    · refine go_ifN (pc := 644) d47_644 (XT.i0_eq_f h2) ?_
      refine go_iinc (pc := 647) (L' := [.val (.ref 0), .val (.ref 1), .val (.int v2), .val (.int v3), .val (.int v4), .val (.int (v5 + (-1 : Int32))), .val (.int v6), x7, x8, x9, x10, x11, x12, x13, x14, x15, .val (.int v16), x17, x18]) d47_647 rfl ci_m1 rfl ?_
      exact law_650_ok hk24 v2 v3 v4 (v5 + (-1 : Int32)) v6 q t0 x7 x8 x9 x10 x11 x12 x13 x14 x15 (.val (.int v16)) x17 x18 hx7 hx8 hx9 hx10 hx11 hx12 hx13 hx14 hx15 (Or.inr ⟨_, rfl, rfl⟩) hx17 hx18 _ (by simpa only [if_neg h2] using hf)
  · replace hf := (if_neg h1).symm.trans hf
    refine go_icN (pc := 637) d47_637 (XT.ii_eq_f h1) ?_
    refine go_iconst (pc := 640) d47_640 ci_0 ?_
    cases hf
    exact go_zret (pc := 641) rfl d47_641 (show (0 : Int32) = nar .boolean (0 : Int32) by decide)
set_option maxRecDepth 65536 in
set_option maxHeartbeats 4000000 in
theorem law_607_ok {k24 : Int32 → Int32 → Int32 → Int32 → Int32 → List Int32 → S → Option (Int32 × S)} (hk24 : T_law_24 k24) : ∀ (v2 : Int32) (v3 : Int32) (v4 : Int32) (v5 : Int32) (v6 : Int32) (q : List Int32) (t0 : S) (x7 : Slot) (x8 : Slot) (x9 : Slot) (x10 : Slot) (x11 : Slot) (x12 : Slot) (x13 : Slot) (x14 : Slot) (x15 : Slot) (x16 : Slot) (x17 : Slot) (x18 : Slot) (hx7 : k1 x7) (hx8 : k1 x8) (hx9 : k1 x9) (hx10 : k1 x10) (hx11 : k1 x11) (hx12 : k1 x12) (hx13 : k1 x13) (hx14 : k1 x14) (hx15 : k1 x15) (hx16 : k1 x16) (hx17 : k1 x17) (hx18 : k1 x18) (o : Int32 × S), law_607 k24 v2 v3 v4 v5 v6 q t0 = some o → Go PP m47 607 [.val (.ref 0), .val (.ref 1), .val (.int v2), .val (.int v3), .val (.int v4), .val (.int v5), .val (.int v6), x7, x8, x9, x10, x11, x12, x13, x14, x15, x16, x17, x18] [] (some q, [(8, t0)]) (some (.int o.1), (some q, [(8, o.2)])) := by
  intro v2 v3 v4 v5 v6 q t0 x7 x8 x9 x10 x11 x12 x13 x14 x15 x16 x17 x18 hx7 hx8 hx9 hx10 hx11 hx12 hx13 hx14 hx15 hx16 hx17 hx18 o hf
  unfold law_607 at hf
  refine go_goto (pc := 607) (pc' := 811) d47_607 j_607_204 ?_
  exact law_811_ok hk24 v2 v3 v4 v5 v6 q t0 x7 x8 x9 x10 x11 x12 x13 x14 x15 x16 x17 x18 hx7 hx8 hx9 hx10 hx11 hx12 hx13 hx14 hx15 hx16 hx17 hx18 _ hf
set_option maxRecDepth 65536 in
set_option maxHeartbeats 4000000 in
theorem law_594_ok {k24 : Int32 → Int32 → Int32 → Int32 → Int32 → List Int32 → S → Option (Int32 × S)} (hk24 : T_law_24 k24) : ∀ (v2 : Int32) (v3 : Int32) (v4 : Int32) (v5 : Int32) (v6 : Int32) (v16 : Int32) (p0 : Int32) (p1 : Int32) (q : List Int32) (t0 : S) (x7 : Slot) (x8 : Slot) (x9 : Slot) (x10 : Slot) (x11 : Slot) (x12 : Slot) (x13 : Slot) (x14 : Slot) (x15 : Slot) (x17 : Slot) (x18 : Slot) (hx7 : k1 x7) (hx8 : k1 x8) (hx9 : k1 x9) (hx10 : k1 x10) (hx11 : k1 x11) (hx12 : k1 x12) (hx13 : k1 x13) (hx14 : k1 x14) (hx15 : k1 x15) (hx17 : k1 x17) (hx18 : k1 x18) (o : Int32 × S), law_594 k24 v2 v3 v4 v5 v6 v16 p0 p1 q t0 = some o → Go PP m47 594 [.val (.ref 0), .val (.ref 1), .val (.int v2), .val (.int v3), .val (.int v4), .val (.int v5), .val (.int v6), x7, x8, x9, x10, x11, x12, x13, x14, x15, .val (.int v16), x17, x18] [.int p0, .int p1] (some q, [(8, t0)]) (some (.int o.1), (some q, [(8, o.2)])) := by
  intro v2 v3 v4 v5 v6 v16 p0 p1 q t0 x7 x8 x9 x10 x11 x12 x13 x14 x15 x17 x18 hx7 hx8 hx9 hx10 hx11 hx12 hx13 hx14 hx15 hx17 hx18 o hf
  unfold law_594 at hf
  by_cases h1 : p1 = p0
  · replace hf := (if_pos h1).symm.trans hf
    refine go_icY (pc := 594) (pc' := 599) d47_594 (XT.ii_eq_t h1) j_594_5 ?_
    refine go_iload (pc := 599) d47_599 rfl ?_
    by_cases h2 : v16 = 0
    · refine go_ifY (pc := 601) (pc' := 607) d47_601 (XT.i0_eq_t h2) j_601_6 ?_
      exact law_607_ok hk24 v2 v3 v4 v5 v6 q t0 x7 x8 x9 x10 x11 x12 x13 x14 x15 (.val (.int v16)) x17 x18 hx7 hx8 hx9 hx10 hx11 hx12 hx13 hx14 hx15 (Or.inr ⟨_, rfl, rfl⟩) hx17 hx18 _ (by simpa only [if_pos h2] using hf)
    · refine go_ifN (pc := 601) d47_601 (XT.i0_eq_f h2) ?_
      refine go_iinc (pc := 604) (L' := [.val (.ref 0), .val (.ref 1), .val (.int v2), .val (.int v3), .val (.int v4), .val (.int (v5 + (1 : Int32))), .val (.int v6), x7, x8, x9, x10, x11, x12, x13, x14, x15, .val (.int v16), x17, x18]) d47_604 rfl ci_1 rfl ?_
      exact law_607_ok hk24 v2 v3 v4 (v5 + (1 : Int32)) v6 q t0 x7 x8 x9 x10 x11 x12 x13 x14 x15 (.val (.int v16)) x17 x18 hx7 hx8 hx9 hx10 hx11 hx12 hx13 hx14 hx15 (Or.inr ⟨_, rfl, rfl⟩) hx17 hx18 _ (by simpa only [if_neg h2] using hf)
  · replace hf := (if_neg h1).symm.trans hf
    refine go_icN (pc := 594) d47_594 (XT.ii_eq_f h1) ?_
    refine go_iconst (pc := 597) d47_597 ci_0 ?_
    cases hf
    exact go_zret (pc := 598) rfl d47_598 (show (0 : Int32) = nar .boolean (0 : Int32) by decide)
set_option maxRecDepth 65536 in
set_option maxHeartbeats 4000000 in
theorem law_564_ok {k24 : Int32 → Int32 → Int32 → Int32 → Int32 → List Int32 → S → Option (Int32 × S)} (hk24 : T_law_24 k24) : ∀ (v2 : Int32) (v3 : Int32) (v4 : Int32) (v5 : Int32) (v6 : Int32) (q : List Int32) (t0 : S) (x7 : Slot) (x8 : Slot) (x9 : Slot) (x10 : Slot) (x11 : Slot) (x12 : Slot) (x13 : Slot) (x14 : Slot) (x15 : Slot) (x16 : Slot) (x17 : Slot) (x18 : Slot) (hx7 : k1 x7) (hx8 : k1 x8) (hx9 : k1 x9) (hx10 : k1 x10) (hx11 : k1 x11) (hx12 : k1 x12) (hx13 : k1 x13) (hx14 : k1 x14) (hx15 : k1 x15) (hx16 : k1 x16) (hx17 : k1 x17) (hx18 : k1 x18) (o : Int32 × S), law_564 k24 v2 v3 v4 v5 v6 q t0 = some o → Go PP m47 564 [.val (.ref 0), .val (.ref 1), .val (.int v2), .val (.int v3), .val (.int v4), .val (.int v5), .val (.int v6), x7, x8, x9, x10, x11, x12, x13, x14, x15, x16, x17, x18] [] (some q, [(8, t0)]) (some (.int o.1), (some q, [(8, o.2)])) := by
  intro v2 v3 v4 v5 v6 q t0 x7 x8 x9 x10 x11 x12 x13 x14 x15 x16 x17 x18 hx7 hx8 hx9 hx10 hx11 hx12 hx13 hx14 hx15 hx16 hx17 hx18 o hf
  unfold law_564 at hf
  refine go_goto (pc := 564) (pc' := 811) d47_564 j_564_247 ?_
  exact law_811_ok hk24 v2 v3 v4 v5 v6 q t0 x7 x8 x9 x10 x11 x12 x13 x14 x15 x16 x17 x18 hx7 hx8 hx9 hx10 hx11 hx12 hx13 hx14 hx15 hx16 hx17 hx18 _ hf
set_option maxRecDepth 65536 in
set_option maxHeartbeats 4000000 in
theorem law_528_ok {k24 : Int32 → Int32 → Int32 → Int32 → Int32 → List Int32 → S → Option (Int32 × S)} (hk24 : T_law_24 k24) : ∀ (v2 : Int32) (v3 : Int32) (v4 : Int32) (v5 : Int32) (v6 : Int32) (v10 : Int32) (v11 : Int32) (v12 : Int32) (v14 : Int32) (v16 : Int32) (p0 : Int32) (p1 : Int32) (q : List Int32) (t0 : S) (x7 : Slot) (x8 : Slot) (x9 : Slot) (x13 : Slot) (x15 : Slot) (x17 : Slot) (x18 : Slot) (hx7 : k1 x7) (hx8 : k1 x8) (hx9 : k1 x9) (hx13 : k1 x13) (hx15 : k1 x15) (hx17 : k1 x17) (hx18 : k1 x18) (o : Int32 × S), law_528 k24 v2 v3 v4 v5 v6 v10 v11 v12 v14 v16 p0 p1 q t0 = some o → Go PP m47 528 [.val (.ref 0), .val (.ref 1), .val (.int v2), .val (.int v3), .val (.int v4), .val (.int v5), .val (.int v6), x7, x8, x9, .val (.int v10), .val (.int v11), .val (.int v12), x13, .val (.int v14), x15, .val (.int v16), x17, x18] [.int p0, .int p1] (some q, [(8, t0)]) (some (.int o.1), (some q, [(8, o.2)])) := by
  intro v2 v3 v4 v5 v6 v10 v11 v12 v14 v16 p0 p1 q t0 x7 x8 x9 x13 x15 x17 x18 hx7 hx8 hx9 hx13 hx15 hx17 hx18 o hf
  unfold law_528 at hf
  by_cases h1 : p1 = p0
  · replace hf := (if_pos h1).symm.trans hf
    refine go_icY (pc := 528) (pc' := 533) d47_528 (XT.ii_eq_t h1) j_528_5 ?_
    refine go_iload (pc := 533) d47_533 rfl ?_
    by_cases h2 : v16 = 0
    · replace hf := (if_pos h2).symm.trans hf
      refine go_ifY (pc := 535) (pc' := 564) d47_535 (XT.i0_eq_t h2) j_535_29 ?_
      exact law_564_ok hk24 v2 v3 v4 v5 v6 q t0 x7 x8 x9 (.val (.int v10)) (.val (.int v11)) (.val (.int v12)) x13 (.val (.int v14)) x15 (.val (.int v16)) x17 x18 hx7 hx8 hx9 (Or.inr ⟨_, rfl, rfl⟩) (Or.inr ⟨_, rfl, rfl⟩) (Or.inr ⟨_, rfl, rfl⟩) hx13 (Or.inr ⟨_, rfl, rfl⟩) hx15 (Or.inr ⟨_, rfl, rfl⟩) hx17 hx18 _ hf
    · replace hf := (if_neg h2).symm.trans hf
      refine go_ifN (pc := 535) d47_535 (XT.i0_eq_f h2) ?_
      refine go_aloadN (pc := 538) d47_538 rfl (go_iload (pc := 539) d47_539 rfl (go_iload (pc := 541) d47_541 rfl ?_))
      obtain ⟨r543, e3, hf⟩ := Option.bind_eq_some_iff.mp hf
      refine go_virt (pc := 543) (i := 0) (as := [.int v11, .int v12]) (rest := []) (w' := (some q, [(8, t0)])) lk_1_37 pd_19 rfl oid_0 rfl rfl rfl rfl rfl rfl ⟨rfl, rfl, rfl, rfl, rfl⟩ d47_543 (c_k_read v11 v12 t0 _ e3) ?_
      refine go_iload (pc := 546) d47_546 rfl ?_
      by_cases h4 : r543 = v10
      · replace hf := (if_pos h4).symm.trans hf
        refine go_icN (pc := 548) d47_548 (XT.ii_ne_f h4) ?_
        refine go_aloadN (pc := 551) d47_551 rfl (go_iload (pc := 552) d47_552 rfl ?_)
        obtain ⟨r554, e5, hf⟩ := Option.bind_eq_some_iff.mp hf
        refine go_virt (pc := 554) (i := 0) (as := [.int v14]) (rest := []) (w' := (some q, [(8, t0)])) lk_1_16 pd_21 rfl oid_0 rfl rfl rfl rfl rfl rfl ⟨rfl, rfl, rfl, rfl, rfl⟩ d47_554 (c_k_frameValue v14 t0 _ e5) ?_
        refine go_iload (pc := 557) d47_557 rfl ?_
        by_cases h6 : r554 = v10
        · replace hf := (if_pos h6).symm.trans hf
          refine go_icY (pc := 559) (pc' := 564) d47_559 (XT.ii_eq_t h6) j_559_5 ?_
          exact law_564_ok hk24 v2 v3 v4 v5 v6 q t0 x7 x8 x9 (.val (.int v10)) (.val (.int v11)) (.val (.int v12)) x13 (.val (.int v14)) x15 (.val (.int v16)) x17 x18 hx7 hx8 hx9 (Or.inr ⟨_, rfl, rfl⟩) (Or.inr ⟨_, rfl, rfl⟩) (Or.inr ⟨_, rfl, rfl⟩) hx13 (Or.inr ⟨_, rfl, rfl⟩) hx15 (Or.inr ⟨_, rfl, rfl⟩) hx17 hx18 _ hf
        · replace hf := (if_neg h6).symm.trans hf
          refine go_icN (pc := 559) d47_559 (XT.ii_eq_f h6) ?_
          refine go_iconst (pc := 562) d47_562 ci_0 ?_
          cases hf
          exact go_zret (pc := 563) rfl d47_563 (show (0 : Int32) = nar .boolean (0 : Int32) by decide)
      · replace hf := (if_neg h4).symm.trans hf
        refine go_icY (pc := 548) (pc' := 562) d47_548 (XT.ii_ne_t h4) j_548_14 ?_
        refine go_iconst (pc := 562) d47_562 ci_0 ?_
        cases hf
        exact go_zret (pc := 563) rfl d47_563 (show (0 : Int32) = nar .boolean (0 : Int32) by decide)
  · replace hf := (if_neg h1).symm.trans hf
    refine go_icN (pc := 528) d47_528 (XT.ii_eq_f h1) ?_
    refine go_iconst (pc := 531) d47_531 ci_0 ?_
    cases hf
    exact go_zret (pc := 532) rfl d47_532 (show (0 : Int32) = nar .boolean (0 : Int32) by decide)
set_option maxRecDepth 65536 in
set_option maxHeartbeats 4000000 in
theorem law_495_ok {k24 : Int32 → Int32 → Int32 → Int32 → Int32 → List Int32 → S → Option (Int32 × S)} (hk24 : T_law_24 k24) : ∀ (v2 : Int32) (v3 : Int32) (v4 : Int32) (v5 : Int32) (v6 : Int32) (q : List Int32) (t0 : S) (x7 : Slot) (x8 : Slot) (x9 : Slot) (x10 : Slot) (x11 : Slot) (x12 : Slot) (x13 : Slot) (x14 : Slot) (x15 : Slot) (x16 : Slot) (x17 : Slot) (x18 : Slot) (hx7 : k1 x7) (hx8 : k1 x8) (hx9 : k1 x9) (hx10 : k1 x10) (hx11 : k1 x11) (hx12 : k1 x12) (hx13 : k1 x13) (hx14 : k1 x14) (hx15 : k1 x15) (hx16 : k1 x16) (hx17 : k1 x17) (hx18 : k1 x18) (o : Int32 × S), law_495 k24 v2 v3 v4 v5 v6 q t0 = some o → Go PP m47 495 [.val (.ref 0), .val (.ref 1), .val (.int v2), .val (.int v3), .val (.int v4), .val (.int v5), .val (.int v6), x7, x8, x9, x10, x11, x12, x13, x14, x15, x16, x17, x18] [] (some q, [(8, t0)]) (some (.int o.1), (some q, [(8, o.2)])) := by
  intro v2 v3 v4 v5 v6 q t0 x7 x8 x9 x10 x11 x12 x13 x14 x15 x16 x17 x18 hx7 hx8 hx9 hx10 hx11 hx12 hx13 hx14 hx15 hx16 hx17 hx18 o hf
  unfold law_495 at hf
  refine go_goto (pc := 495) (pc' := 811) d47_495 j_495_316 ?_
  exact law_811_ok hk24 v2 v3 v4 v5 v6 q t0 x7 x8 x9 x10 x11 x12 x13 x14 x15 x16 x17 x18 hx7 hx8 hx9 hx10 hx11 hx12 hx13 hx14 hx15 hx16 hx17 hx18 _ hf
set_option maxRecDepth 65536 in
set_option maxHeartbeats 4000000 in
theorem law_415_ok {k24 : Int32 → Int32 → Int32 → Int32 → Int32 → List Int32 → S → Option (Int32 × S)} (hk24 : T_law_24 k24) : ∀ (v2 : Int32) (v3 : Int32) (v4 : Int32) (v5 : Int32) (v6 : Int32) (q : List Int32) (t0 : S) (x7 : Slot) (x8 : Slot) (x9 : Slot) (x10 : Slot) (x11 : Slot) (x12 : Slot) (x13 : Slot) (x14 : Slot) (x15 : Slot) (x16 : Slot) (x17 : Slot) (x18 : Slot) (hx7 : k1 x7) (hx8 : k1 x8) (hx9 : k1 x9) (hx10 : k1 x10) (hx11 : k1 x11) (hx12 : k1 x12) (hx13 : k1 x13) (hx14 : k1 x14) (hx15 : k1 x15) (hx16 : k1 x16) (hx17 : k1 x17) (hx18 : k1 x18) (o : Int32 × S), law_415 k24 v2 v3 v4 v5 v6 q t0 = some o → Go PP m47 415 [.val (.ref 0), .val (.ref 1), .val (.int v2), .val (.int v3), .val (.int v4), .val (.int v5), .val (.int v6), x7, x8, x9, x10, x11, x12, x13, x14, x15, x16, x17, x18] [] (some q, [(8, t0)]) (some (.int o.1), (some q, [(8, o.2)])) := by
  intro v2 v3 v4 v5 v6 q t0 x7 x8 x9 x10 x11 x12 x13 x14 x15 x16 x17 x18 hx7 hx8 hx9 hx10 hx11 hx12 hx13 hx14 hx15 hx16 hx17 hx18 o hf
  unfold law_415 at hf
  refine go_goto (pc := 415) (pc' := 811) d47_415 j_415_396 ?_
  exact law_811_ok hk24 v2 v3 v4 v5 v6 q t0 x7 x8 x9 x10 x11 x12 x13 x14 x15 x16 x17 x18 hx7 hx8 hx9 hx10 hx11 hx12 hx13 hx14 hx15 hx16 hx17 hx18 _ hf
set_option maxRecDepth 65536 in
set_option maxHeartbeats 4000000 in
theorem law_380_ok {k24 : Int32 → Int32 → Int32 → Int32 → Int32 → List Int32 → S → Option (Int32 × S)} (hk24 : T_law_24 k24) : ∀ (v2 : Int32) (v3 : Int32) (v4 : Int32) (v5 : Int32) (v6 : Int32) (v11 : Int32) (v12 : Int32) (v16 : Int32) (v17 : Int32) (v18 : Int32) (p0 : Int32) (p1 : Int32) (q : List Int32) (t0 : S) (x7 : Slot) (x8 : Slot) (x9 : Slot) (x10 : Slot) (x13 : Slot) (x14 : Slot) (x15 : Slot) (hx7 : k1 x7) (hx8 : k1 x8) (hx9 : k1 x9) (hx10 : k1 x10) (hx13 : k1 x13) (hx14 : k1 x14) (hx15 : k1 x15) (o : Int32 × S), law_380 k24 v2 v3 v4 v5 v6 v11 v12 v16 v17 v18 p0 p1 q t0 = some o → Go PP m47 380 [.val (.ref 0), .val (.ref 1), .val (.int v2), .val (.int v3), .val (.int v4), .val (.int v5), .val (.int v6), x7, x8, x9, x10, .val (.int v11), .val (.int v12), x13, x14, x15, .val (.int v16), .val (.int v17), .val (.int v18)] [.int p0, .int p1] (some q, [(8, t0)]) (some (.int o.1), (some q, [(8, o.2)])) := by
  intro v2 v3 v4 v5 v6 v11 v12 v16 v17 v18 p0 p1 q t0 x7 x8 x9 x10 x13 x14 x15 hx7 hx8 hx9 hx10 hx13 hx14 hx15 o hf
  unfold law_380 at hf
  by_cases h1 : p1 = p0
  · replace hf := (if_pos h1).symm.trans hf
    refine go_icY (pc := 380) (pc' := 385) d47_380 (XT.ii_eq_t h1) j_380_5 ?_
    refine go_iload (pc := 385) d47_385 rfl ?_
    by_cases h2 : v18 = 0
    · replace hf := (if_pos h2).symm.trans hf
      refine go_ifY (pc := 387) (pc' := 415) d47_387 (XT.i0_eq_t h2) j_387_28 ?_
      exact law_415_ok hk24 v2 v3 v4 v5 v6 q t0 x7 x8 x9 x10 (.val (.int v11)) (.val (.int v12)) x13 x14 x15 (.val (.int v16)) (.val (.int v17)) (.val (.int v18)) hx7 hx8 hx9 hx10 (Or.inr ⟨_, rfl, rfl⟩) (Or.inr ⟨_, rfl, rfl⟩) hx13 hx14 hx15 (Or.inr ⟨_, rfl, rfl⟩) (Or.inr ⟨_, rfl, rfl⟩) (Or.inr ⟨_, rfl, rfl⟩) _ hf
    · replace hf := (if_neg h2).symm.trans hf
      refine go_ifN (pc := 387) d47_387 (XT.i0_eq_f h2) ?_
      refine go_iload (pc := 390) d47_390 rfl (go_iload (pc := 392) d47_392 rfl ?_)
      by_cases h3 : v17 = v16
      · replace hf := (if_pos h3).symm.trans hf
        refine go_icN (pc := 394) d47_394 (XT.ii_ne_f h3) ?_
        refine go_aloadN (pc := 397) d47_397 rfl (go_iload (pc := 398) d47_398 rfl (go_iload (pc := 400) d47_400 rfl ?_))
        obtain ⟨r402, e4, hf⟩ := Option.bind_eq_some_iff.mp hf
        refine go_virt (pc := 402) (i := 0) (as := [.int v11, .int v12]) (rest := []) (w' := (some q, [(8, t0)])) lk_1_29 pd_8 rfl oid_0 rfl rfl rfl rfl rfl rfl ⟨rfl, rfl, rfl, rfl, rfl⟩ d47_402 (c_k_frameOf v11 v12 t0 _ e4) ?_
        refine go_iload (pc := 405) d47_405 rfl ?_
        by_cases h5 : r402 = v17
        · replace hf := (if_pos h5).symm.trans hf
          refine go_icY (pc := 407) (pc' := 412) d47_407 (XT.ii_eq_t h5) j_407_5 ?_
          refine go_iinc (pc := 412) (L' := [.val (.ref 0), .val (.ref 1), .val (.int (v2 + (1 : Int32))), .val (.int v3), .val (.int v4), .val (.int v5), .val (.int v6), x7, x8, x9, x10, .val (.int v11), .val (.int v12), x13, x14, x15, .val (.int v16), .val (.int v17), .val (.int v18)]) d47_412 rfl ci_1 rfl ?_
          exact law_415_ok hk24 (v2 + (1 : Int32)) v3 v4 v5 v6 q t0 x7 x8 x9 x10 (.val (.int v11)) (.val (.int v12)) x13 x14 x15 (.val (.int v16)) (.val (.int v17)) (.val (.int v18)) hx7 hx8 hx9 hx10 (Or.inr ⟨_, rfl, rfl⟩) (Or.inr ⟨_, rfl, rfl⟩) hx13 hx14 hx15 (Or.inr ⟨_, rfl, rfl⟩) (Or.inr ⟨_, rfl, rfl⟩) (Or.inr ⟨_, rfl, rfl⟩) _ hf
        · replace hf := (if_neg h5).symm.trans hf
          refine go_icN (pc := 407) d47_407 (XT.ii_eq_f h5) ?_
          refine go_iconst (pc := 410) d47_410 ci_0 ?_
          cases hf
          exact go_zret (pc := 411) rfl d47_411 (show (0 : Int32) = nar .boolean (0 : Int32) by decide)
      · replace hf := (if_neg h3).symm.trans hf
        refine go_icY (pc := 394) (pc' := 410) d47_394 (XT.ii_ne_t h3) j_394_16 ?_
        refine go_iconst (pc := 410) d47_410 ci_0 ?_
        cases hf
        exact go_zret (pc := 411) rfl d47_411 (show (0 : Int32) = nar .boolean (0 : Int32) by decide)
  · replace hf := (if_neg h1).symm.trans hf
    refine go_icN (pc := 380) d47_380 (XT.ii_eq_f h1) ?_
    refine go_iconst (pc := 383) d47_383 ci_0 ?_
    cases hf
    exact go_zret (pc := 384) rfl d47_384 (show (0 : Int32) = nar .boolean (0 : Int32) by decide)
set_option maxRecDepth 65536 in
set_option maxHeartbeats 4000000 in
theorem law_366_ok {k24 : Int32 → Int32 → Int32 → Int32 → Int32 → List Int32 → S → Option (Int32 × S)} (hk24 : T_law_24 k24) : ∀ (v2 : Int32) (v3 : Int32) (v4 : Int32) (v5 : Int32) (v6 : Int32) (v11 : Int32) (v12 : Int32) (v16 : Int32) (v17 : Int32) (p0 : Int32) (q : List Int32) (t0 : S) (x7 : Slot) (x8 : Slot) (x9 : Slot) (x10 : Slot) (x13 : Slot) (x14 : Slot) (x15 : Slot) (x18 : Slot) (hx7 : k1 x7) (hx8 : k1 x8) (hx9 : k1 x9) (hx10 : k1 x10) (hx13 : k1 x13) (hx14 : k1 x14) (hx15 : k1 x15) (hx18 : k1 x18) (o : Int32 × S), law_366 k24 v2 v3 v4 v5 v6 v11 v12 v16 v17 p0 q t0 = some o → Go PP m47 366 [.val (.ref 0), .val (.ref 1), .val (.int v2), .val (.int v3), .val (.int v4), .val (.int v5), .val (.int v6), x7, x8, x9, x10, .val (.int v11), .val (.int v12), x13, x14, x15, .val (.int v16), .val (.int v17), x18] [.int p0] (some q, [(8, t0)]) (some (.int o.1), (some q, [(8, o.2)])) := by
  intro v2 v3 v4 v5 v6 v11 v12 v16 v17 p0 q t0 x7 x8 x9 x10 x13 x14 x15 x18 hx7 hx8 hx9 hx10 hx13 hx14 hx15 hx18 o hf
  unfold law_366 at hf
  refine go_istore (pc := 366) (L' := [.val (.ref 0), .val (.ref 1), .val (.int v2), .val (.int v3), .val (.int v4), .val (.int v5), .val (.int v6), x7, x8, x9, x10, .val (.int v11), .val (.int v12), x13, x14, x15, .val (.int v16), .val (.int v17), .val (.int p0)]) d47_366 (stx rfl hx18 rfl) (go_iload (pc := 368) d47_368 rfl (go_iload (pc := 370) d47_370 rfl ?_))
  by_cases h1 : v17 < 0
  · refine go_ifY (pc := 372) (pc' := 379) d47_372 (XT.i0_lt_t h1) j_372_7 ?_
    refine go_iconst (pc := 379) d47_379 ci_0 ?_
    exact law_380_ok hk24 v2 v3 v4 v5 v6 v11 v12 v16 v17 p0 (0 : Int32) p0 q t0 x7 x8 x9 x10 x13 x14 x15 hx7 hx8 hx9 hx10 hx13 hx14 hx15 _ (by simpa only [if_pos h1] using hf)
  · refine go_ifN (pc := 372) d47_372 (XT.i0_lt_f h1) ?_
    refine go_iconst (pc := 375) d47_375 ci_1 (go_goto (pc := 376) (pc' := 380) d47_376 j_376_4 ?_)
    exact law_380_ok hk24 v2 v3 v4 v5 v6 v11 v12 v16 v17 p0 (1 : Int32) p0 q t0 x7 x8 x9 x10 x13 x14 x15 hx7 hx8 hx9 hx10 hx13 hx14 hx15 _ (by simpa only [if_neg h1] using hf)
set_option maxRecDepth 65536 in
set_option maxHeartbeats 4000000 in
theorem law_293_ok {k24 : Int32 → Int32 → Int32 → Int32 → Int32 → List Int32 → S → Option (Int32 × S)} (hk24 : T_law_24 k24) : ∀ (v2 : Int32) (v3 : Int32) (v4 : Int32) (v5 : Int32) (v6 : Int32) (q : List Int32) (t0 : S) (x7 : Slot) (x8 : Slot) (x9 : Slot) (x10 : Slot) (x11 : Slot) (x12 : Slot) (x13 : Slot) (x14 : Slot) (x15 : Slot) (x16 : Slot) (x17 : Slot) (x18 : Slot) (hx7 : k1 x7) (hx8 : k1 x8) (hx9 : k1 x9) (hx10 : k1 x10) (hx11 : k1 x11) (hx12 : k1 x12) (hx13 : k1 x13) (hx14 : k1 x14) (hx15 : k1 x15) (hx16 : k1 x16) (hx17 : k1 x17) (hx18 : k1 x18) (o : Int32 × S), law_293 k24 v2 v3 v4 v5 v6 q t0 = some o → Go PP m47 293 [.val (.ref 0), .val (.ref 1), .val (.int v2), .val (.int v3), .val (.int v4), .val (.int v5), .val (.int v6), x7, x8, x9, x10, x11, x12, x13, x14, x15, x16, x17, x18] [] (some q, [(8, t0)]) (some (.int o.1), (some q, [(8, o.2)])) := by
  intro v2 v3 v4 v5 v6 q t0 x7 x8 x9 x10 x11 x12 x13 x14 x15 x16 x17 x18 hx7 hx8 hx9 hx10 hx11 hx12 hx13 hx14 hx15 hx16 hx17 hx18 o hf
  unfold law_293 at hf
  refine go_goto (pc := 293) (pc' := 811) d47_293 j_293_518 ?_
  exact law_811_ok hk24 v2 v3 v4 v5 v6 q t0 x7 x8 x9 x10 x11 x12 x13 x14 x15 x16 x17 x18 hx7 hx8 hx9 hx10 hx11 hx12 hx13 hx14 hx15 hx16 hx17 hx18 _ hf
set_option maxRecDepth 65536 in
set_option maxHeartbeats 4000000 in
theorem law_287_ok {k24 : Int32 → Int32 → Int32 → Int32 → Int32 → List Int32 → S → Option (Int32 × S)} (hk24 : T_law_24 k24) : ∀ (v2 : Int32) (v3 : Int32) (v4 : Int32) (v5 : Int32) (v6 : Int32) (q : List Int32) (t0 : S) (x7 : Slot) (x8 : Slot) (x9 : Slot) (x10 : Slot) (x11 : Slot) (x12 : Slot) (x13 : Slot) (x14 : Slot) (x15 : Slot) (x16 : Slot) (x17 : Slot) (x18 : Slot) (hx7 : k1 x7) (hx8 : k1 x8) (hx9 : k1 x9) (hx10 : k1 x10) (hx11 : k1 x11) (hx12 : k1 x12) (hx13 : k1 x13) (hx14 : k1 x14) (hx15 : k1 x15) (hx16 : k1 x16) (hx17 : k1 x17) (hx18 : k1 x18) (o : Int32 × S), law_287 k24 v2 v3 v4 v5 v6 q t0 = some o → Go PP m47 287 [.val (.ref 0), .val (.ref 1), .val (.int v2), .val (.int v3), .val (.int v4), .val (.int v5), .val (.int v6), x7, x8, x9, x10, x11, x12, x13, x14, x15, x16, x17, x18] [] (some q, [(8, t0)]) (some (.int o.1), (some q, [(8, o.2)])) := by
  intro v2 v3 v4 v5 v6 q t0 x7 x8 x9 x10 x11 x12 x13 x14 x15 x16 x17 x18 hx7 hx8 hx9 hx10 hx11 hx12 hx13 hx14 hx15 hx16 hx17 hx18 o hf
  unfold law_287 at hf
  refine go_iinc (pc := 287) (L' := [.val (.ref 0), .val (.ref 1), .val (.int (v2 + (1 : Int32))), .val (.int v3), .val (.int v4), .val (.int v5), .val (.int v6), x7, x8, x9, x10, x11, x12, x13, x14, x15, x16, x17, x18]) d47_287 rfl ci_1 rfl (go_iinc (pc := 290) (L' := [.val (.ref 0), .val (.ref 1), .val (.int (v2 + (1 : Int32))), .val (.int (v3 + (1 : Int32))), .val (.int v4), .val (.int v5), .val (.int v6), x7, x8, x9, x10, x11, x12, x13, x14, x15, x16, x17, x18]) d47_290 rfl ci_1 rfl ?_)
  exact law_293_ok hk24 (v2 + (1 : Int32)) (v3 + (1 : Int32)) v4 v5 v6 q t0 x7 x8 x9 x10 x11 x12 x13 x14 x15 x16 x17 x18 hx7 hx8 hx9 hx10 hx11 hx12 hx13 hx14 hx15 hx16 hx17 hx18 _ hf
set_option maxRecDepth 65536 in
set_option maxHeartbeats 4000000 in
theorem law_263_ok {k24 : Int32 → Int32 → Int32 → Int32 → Int32 → List Int32 → S → Option (Int32 × S)} (hk24 : T_law_24 k24) : ∀ (n : Nat) (v2 : Int32) (v3 : Int32) (v4 : Int32) (v5 : Int32) (v6 : Int32) (v17 : Int32) (v18 : Int32) (q : List Int32) (t0 : S) (x7 : Slot) (x8 : Slot) (x9 : Slot) (x10 : Slot) (x11 : Slot) (x12 : Slot) (x13 : Slot) (x14 : Slot) (x15 : Slot) (x16 : Slot) (hx7 : k1 x7) (hx8 : k1 x8) (hx9 : k1 x9) (hx10 : k1 x10) (hx11 : k1 x11) (hx12 : k1 x12) (hx13 : k1 x13) (hx14 : k1 x14) (hx15 : k1 x15) (hx16 : k1 x16) (o : Int32 × S), law_263 k24 n v2 v3 v4 v5 v6 v17 v18 q t0 = some o → Go PP m47 263 [.val (.ref 0), .val (.ref 1), .val (.int v2), .val (.int v3), .val (.int v4), .val (.int v5), .val (.int v6), x7, x8, x9, x10, x11, x12, x13, x14, x15, x16, .val (.int v17), .val (.int v18)] [] (some q, [(8, t0)]) (some (.int o.1), (some q, [(8, o.2)])) := by
  intro n
  induction n with
  | zero => intro v2 v3 v4 v5 v6 v17 v18 q t0 x7 x8 x9 x10 x11 x12 x13 x14 x15 x16 hx7 hx8 hx9 hx10 hx11 hx12 hx13 hx14 hx15 hx16 o hf; exact nomatch hf
  | succ n ih =>
    intro v2 v3 v4 v5 v6 v17 v18 q t0 x7 x8 x9 x10 x11 x12 x13 x14 x15 x16 hx7 hx8 hx9 hx10 hx11 hx12 hx13 hx14 hx15 hx16 o hf
    unfold law_263 at hf
    refine go_iload (pc := 263) d47_263 rfl (go_iload (pc := 265) d47_265 rfl ?_)
    by_cases h1 : v18 < v17
    · replace hf := (if_pos h1).symm.trans hf
      refine go_icN (pc := 267) d47_267 (XT.ii_ge_f h1) ?_
      refine go_aloadN (pc := 270) d47_270 rfl (go_iload (pc := 271) d47_271 rfl ?_)
      obtain ⟨r273, e2, hf⟩ := Option.bind_eq_some_iff.mp hf
      refine go_virt (pc := 273) (i := 0) (as := [.int v18]) (rest := []) (w' := (some q, [(8, t0)])) lk_1_7 pd_9 rfl oid_0 rfl rfl rfl rfl rfl rfl ⟨rfl, rfl, rfl, rfl, rfl⟩ d47_273 (c_k_frameState v18 t0 _ e2) ?_
      by_cases h3 : r273 = 0
      · replace hf := (if_pos h3).symm.trans hf
        refine go_ifN (pc := 276) d47_276 (XT.i0_ne_f h3) ?_
        refine go_iconst (pc := 279) d47_279 ci_0 ?_
        cases hf
        exact go_zret (pc := 280) rfl d47_280 (show (0 : Int32) = nar .boolean (0 : Int32) by decide)
      · replace hf := (if_neg h3).symm.trans hf
        refine go_ifY (pc := 276) (pc' := 281) d47_276 (XT.i0_ne_t h3) j_276_5 ?_
        refine go_iinc (pc := 281) (L' := [.val (.ref 0), .val (.ref 1), .val (.int v2), .val (.int v3), .val (.int v4), .val (.int v5), .val (.int v6), x7, x8, x9, x10, x11, x12, x13, x14, x15, x16, .val (.int v17), .val (.int (v18 + (1 : Int32)))]) d47_281 rfl ci_1 rfl (go_goto (pc := 284) (pc' := 263) d47_284 j_284_m21 ?_)
        exact ih v2 v3 v4 v5 v6 v17 (v18 + (1 : Int32)) q t0 x7 x8 x9 x10 x11 x12 x13 x14 x15 x16 hx7 hx8 hx9 hx10 hx11 hx12 hx13 hx14 hx15 hx16 _ hf
    · replace hf := (if_neg h1).symm.trans hf
      refine go_icY (pc := 267) (pc' := 287) d47_267 (XT.ii_ge_t h1) j_267_20 ?_
      exact law_287_ok hk24 v2 v3 v4 v5 v6 q t0 x7 x8 x9 x10 x11 x12 x13 x14 x15 x16 (.val (.int v17)) (.val (.int v18)) hx7 hx8 hx9 hx10 hx11 hx12 hx13 hx14 hx15 hx16 (Or.inr ⟨_, rfl, rfl⟩) (Or.inr ⟨_, rfl, rfl⟩) _ hf
set_option maxRecDepth 65536 in
set_option maxHeartbeats 4000000 in
theorem law_150_ok {k24 : Int32 → Int32 → Int32 → Int32 → Int32 → List Int32 → S → Option (Int32 × S)} (hk24 : T_law_24 k24) : ∀ (v2 : Int32) (v3 : Int32) (v4 : Int32) (v5 : Int32) (v6 : Int32) (v17 : Int32) (q : List Int32) (t0 : S) (x7 : Slot) (x8 : Slot) (x9 : Slot) (x10 : Slot) (x11 : Slot) (x12 : Slot) (x13 : Slot) (x14 : Slot) (x15 : Slot) (x16 : Slot) (x18 : Slot) (hx7 : k1 x7) (hx8 : k1 x8) (hx9 : k1 x9) (hx10 : k1 x10) (hx11 : k1 x11) (hx12 : k1 x12) (hx13 : k1 x13) (hx14 : k1 x14) (hx15 : k1 x15) (hx16 : k1 x16) (hx18 : k1 x18) (o : Int32 × S), law_150 k24 v2 v3 v4 v5 v6 v17 q t0 = some o → Go PP m47 150 [.val (.ref 0), .val (.ref 1), .val (.int v2), .val (.int v3), .val (.int v4), .val (.int v5), .val (.int v6), x7, x8, x9, x10, x11, x12, x13, x14, x15, x16, .val (.int v17), x18] [] (some q, [(8, t0)]) (some (.int o.1), (some q, [(8, o.2)])) := by
  intro v2 v3 v4 v5 v6 v17 q t0 x7 x8 x9 x10 x11 x12 x13 x14 x15 x16 x18 hx7 hx8 hx9 hx10 hx11 hx12 hx13 hx14 hx15 hx16 hx18 o hf
  unfold law_150 at hf
  refine go_iload (pc := 150) d47_150 rfl (go_iconst (pc := 152) d47_152 ci_m1 ?_)
  by_cases h1 : v17 = (-1 : Int32)
  · replace hf := (if_pos h1).symm.trans hf
    refine go_icY (pc := 153) (pc' := 293) d47_153 (XT.ii_eq_t h1) j_153_140 ?_
    exact law_293_ok hk24 v2 v3 v4 v5 v6 q t0 x7 x8 x9 x10 x11 x12 x13 x14 x15 x16 (.val (.int v17)) x18 hx7 hx8 hx9 hx10 hx11 hx12 hx13 hx14 hx15 hx16 (Or.inr ⟨_, rfl, rfl⟩) hx18 _ hf
  · replace hf := (if_neg h1).symm.trans hf
    refine go_icN (pc := 153) d47_153 (XT.ii_eq_f h1) ?_
    refine go_iconst (pc := 156) d47_156 ci_0 ?_
    cases hf
    exact go_zret (pc := 157) rfl d47_157 (show (0 : Int32) = nar .boolean (0 : Int32) by decide)
set_option maxRecDepth 65536 in
set_option maxHeartbeats 4000000 in
theorem law_24_ok  : ∀ (n : Nat) (v2 : Int32) (v3 : Int32) (v4 : Int32) (v5 : Int32) (v6 : Int32) (q : List Int32) (t0 : S) (x7 : Slot) (x8 : Slot) (x9 : Slot) (x10 : Slot) (x11 : Slot) (x12 : Slot) (x13 : Slot) (x14 : Slot) (x15 : Slot) (x16 : Slot) (x17 : Slot) (x18 : Slot) (hx7 : k1 x7) (hx8 : k1 x8) (hx9 : k1 x9) (hx10 : k1 x10) (hx11 : k1 x11) (hx12 : k1 x12) (hx13 : k1 x13) (hx14 : k1 x14) (hx15 : k1 x15) (hx16 : k1 x16) (hx17 : k1 x17) (hx18 : k1 x18) (o : Int32 × S), law_24 n v2 v3 v4 v5 v6 q t0 = some o → Go PP m47 24 [.val (.ref 0), .val (.ref 1), .val (.int v2), .val (.int v3), .val (.int v4), .val (.int v5), .val (.int v6), x7, x8, x9, x10, x11, x12, x13, x14, x15, x16, x17, x18] [] (some q, [(8, t0)]) (some (.int o.1), (some q, [(8, o.2)])) := by
  intro n
  induction n with
  | zero => intro v2 v3 v4 v5 v6 q t0 x7 x8 x9 x10 x11 x12 x13 x14 x15 x16 x17 x18 hx7 hx8 hx9 hx10 hx11 hx12 hx13 hx14 hx15 hx16 hx17 hx18 o hf; exact nomatch hf
  | succ n ih =>
    intro v2 v3 v4 v5 v6 q t0 x7 x8 x9 x10 x11 x12 x13 x14 x15 x16 x17 x18 hx7 hx8 hx9 hx10 hx11 hx12 hx13 hx14 hx15 hx16 hx17 hx18 o hf
    unfold law_24 at hf
    refine go_iload (pc := 24) d47_24 rfl (go_iconst (pc := 26) d47_26 ci_3 (go_iadd (pc := 27) d47_27 (go_aloadN (pc := 28) d47_28 rfl (go_slen (pc := 29) d47_29 ?_))))
    by_cases h1 : (v6 + (3 : Int32)) < q.length.toInt32
    · replace hf := (if_pos h1).symm.trans hf
      refine go_icN (pc := 30) d47_30 (XT.ii_ge_f h1) ?_
      refine go_aloadN (pc := 33) d47_33 rfl (go_iload (pc := 34) d47_34 rfl ?_)
      obtain ⟨a36, e2, hf⟩ := Option.bind_eq_some_iff.mp hf
      refine go_sload (pc := 36) e2 d47_36 ?_
      refine go_bipush (pc := 37) d47_37 cb_15 (go_iand (pc := 39) d47_39 (go_bipush (pc := 40) d47_40 cb_9 (go_irem (pc := 42) d47_42 (by decide) (go_istore (pc := 43) (L' := [.val (.ref 0), .val (.ref 1), .val (.int v2), .val (.int v3), .val (.int v4), .val (.int v5), .val (.int v6), .val (.int ((a36 &&& (15 : Int32)) % (9 : Int32))), x8, x9, x10, x11, x12, x13, x14, x15, x16, x17, x18]) d47_43 (stx rfl hx7 rfl) (go_aloadN (pc := 45) d47_45 rfl (go_iload (pc := 46) d47_46 rfl (go_iconst (pc := 48) d47_48 ci_1 ?_)))))))
      refine go_iadd (pc := 49) d47_49 ?_
      obtain ⟨a50, e3, hf⟩ := Option.bind_eq_some_iff.mp hf
      refine go_sload (pc := 50) e3 d47_50 ?_
      refine go_istore (pc := 51) (L' := [.val (.ref 0), .val (.ref 1), .val (.int v2), .val (.int v3), .val (.int v4), .val (.int v5), .val (.int v6), .val (.int ((a36 &&& (15 : Int32)) % (9 : Int32))), .val (.int a50), x9, x10, x11, x12, x13, x14, x15, x16, x17, x18]) d47_51 (stx rfl hx8 rfl) (go_aloadN (pc := 53) d47_53 rfl (go_iload (pc := 54) d47_54 rfl (go_iconst (pc := 56) d47_56 ci_2 (go_iadd (pc := 57) d47_57 ?_))))
      obtain ⟨a58, e4, hf⟩ := Option.bind_eq_some_iff.mp hf
      refine go_sload (pc := 58) e4 d47_58 ?_
      refine go_istore (pc := 59) (L' := [.val (.ref 0), .val (.ref 1), .val (.int v2), .val (.int v3), .val (.int v4), .val (.int v5), .val (.int v6), .val (.int ((a36 &&& (15 : Int32)) % (9 : Int32))), .val (.int a50), .val (.int a58), x10, x11, x12, x13, x14, x15, x16, x17, x18]) d47_59 (stx rfl hx9 rfl) (go_aloadN (pc := 61) d47_61 rfl (go_iload (pc := 62) d47_62 rfl (go_iconst (pc := 64) d47_64 ci_3 (go_iadd (pc := 65) d47_65 ?_))))
      obtain ⟨a66, e5, hf⟩ := Option.bind_eq_some_iff.mp hf
      refine go_sload (pc := 66) e5 d47_66 ?_
      refine go_istore (pc := 67) (L' := [.val (.ref 0), .val (.ref 1), .val (.int v2), .val (.int v3), .val (.int v4), .val (.int v5), .val (.int v6), .val (.int ((a36 &&& (15 : Int32)) % (9 : Int32))), .val (.int a50), .val (.int a58), .val (.int a66), x11, x12, x13, x14, x15, x16, x17, x18]) d47_67 (stx rfl hx10 rfl) (go_iload (pc := 69) d47_69 rfl (go_bipush (pc := 71) d47_71 cb_7 (go_iand (pc := 73) d47_73 (go_iconst (pc := 74) d47_74 ci_5 (go_irem (pc := 75) d47_75 (by decide) (go_istore (pc := 76) (L' := [.val (.ref 0), .val (.ref 1), .val (.int v2), .val (.int v3), .val (.int v4), .val (.int v5), .val (.int v6), .val (.int ((a36 &&& (15 : Int32)) % (9 : Int32))), .val (.int a50), .val (.int a58), .val (.int a66), .val (.int ((a50 &&& (7 : Int32)) % (5 : Int32))), x12, x13, x14, x15, x16, x17, x18]) d47_76 (stx rfl hx11 rfl) (go_iload (pc := 78) d47_78 rfl ?_)))))))
      refine go_bipush (pc := 80) d47_80 cb_7 (go_iand (pc := 82) d47_82 (go_iconst (pc := 83) d47_83 ci_5 (go_irem (pc := 84) d47_84 (by decide) (go_istore (pc := 85) (L' := [.val (.ref 0), .val (.ref 1), .val (.int v2), .val (.int v3), .val (.int v4), .val (.int v5), .val (.int v6), .val (.int ((a36 &&& (15 : Int32)) % (9 : Int32))), .val (.int a50), .val (.int a58), .val (.int a66), .val (.int ((a50 &&& (7 : Int32)) % (5 : Int32))), .val (.int ((a58 &&& (7 : Int32)) % (5 : Int32))), x13, x14, x15, x16, x17, x18]) d47_85 (stx rfl hx12 rfl) (go_iload (pc := 87) d47_87 rfl (go_bipush (pc := 89) d47_89 cb_15 (go_iand (pc := 91) d47_91 ?_)))))))
      refine go_bipush (pc := 92) d47_92 cb_9 (go_irem (pc := 94) d47_94 (by decide) (go_istore (pc := 95) (L' := [.val (.ref 0), .val (.ref 1), .val (.int v2), .val (.int v3), .val (.int v4), .val (.int v5), .val (.int v6), .val (.int ((a36 &&& (15 : Int32)) % (9 : Int32))), .val (.int a50), .val (.int a58), .val (.int a66), .val (.int ((a50 &&& (7 : Int32)) % (5 : Int32))), .val (.int ((a58 &&& (7 : Int32)) % (5 : Int32))), .val (.int ((a50 &&& (15 : Int32)) % (9 : Int32))), x14, x15, x16, x17, x18]) d47_95 (stx rfl hx13 rfl) (go_aloadN (pc := 97) d47_97 rfl (go_iload (pc := 98) d47_98 rfl (go_iload (pc := 100) d47_100 rfl ?_)))))
      obtain ⟨r102, e6, hf⟩ := Option.bind_eq_some_iff.mp hf
      refine go_virt (pc := 102) (i := 0) (as := [.int ((a50 &&& (7 : Int32)) % (5 : Int32)), .int ((a58 &&& (7 : Int32)) % (5 : Int32))]) (rest := []) (w' := (some q, [(8, t0)])) lk_1_29 pd_8 rfl oid_0 rfl rfl rfl rfl rfl rfl ⟨rfl, rfl, rfl, rfl, rfl⟩ d47_102 (c_k_frameOf ((a50 &&& (7 : Int32)) % (5 : Int32)) ((a58 &&& (7 : Int32)) % (5 : Int32)) t0 _ e6) ?_
      refine go_istore (pc := 105) (L' := [.val (.ref 0), .val (.ref 1), .val (.int v2), .val (.int v3), .val (.int v4), .val (.int v5), .val (.int v6), .val (.int ((a36 &&& (15 : Int32)) % (9 : Int32))), .val (.int a50), .val (.int a58), .val (.int a66), .val (.int ((a50 &&& (7 : Int32)) % (5 : Int32))), .val (.int ((a58 &&& (7 : Int32)) % (5 : Int32))), .val (.int ((a50 &&& (15 : Int32)) % (9 : Int32))), .val (.int r102), x15, x16, x17, x18]) d47_105 (stx rfl hx14 rfl) (go_aloadN (pc := 107) d47_107 rfl (go_iload (pc := 108) d47_108 rfl ?_))
      obtain ⟨r110, e7, hf⟩ := Option.bind_eq_some_iff.mp hf
      refine go_virt (pc := 110) (i := 0) (as := [.int ((a50 &&& (15 : Int32)) % (9 : Int32))]) (rest := []) (w' := (some q, [(8, t0)])) lk_1_7 pd_9 rfl oid_0 rfl rfl rfl rfl rfl rfl ⟨rfl, rfl, rfl, rfl, rfl⟩ d47_110 (c_k_frameState ((a50 &&& (15 : Int32)) % (9 : Int32)) t0 _ e7) ?_
      refine go_istore (pc := 113) (L' := [.val (.ref 0), .val (.ref 1), .val (.int v2), .val (.int v3), .val (.int v4), .val (.int v5), .val (.int v6), .val (.int ((a36 &&& (15 : Int32)) % (9 : Int32))), .val (.int a50), .val (.int a58), .val (.int a66), .val (.int ((a50 &&& (7 : Int32)) % (5 : Int32))), .val (.int ((a58 &&& (7 : Int32)) % (5 : Int32))), .val (.int ((a50 &&& (15 : Int32)) % (9 : Int32))), .val (.int r102), .val (.int r110), x16, x17, x18]) d47_113 (stx rfl hx15 rfl) (go_iload (pc := 115) d47_115 rfl ?_)
      by_cases h8 : ((a36 &&& (15 : Int32)) % (9 : Int32)) = 0
      · replace hf := (if_pos h8).symm.trans hf
        refine go_ifN (pc := 117) d47_117 (XT.i0_ne_f h8) ?_
        refine go_aloadN (pc := 120) d47_120 rfl ?_
        refine go_virt (pc := 121) (i := 0) (as := []) (rest := []) (w' := (some q, [(8, t0)])) lk_1_19 pd_11 rfl oid_0 rfl rfl rfl rfl rfl rfl ⟨rfl, rfl, rfl, rfl, rfl⟩ d47_121 (c_k_freeCount t0) ?_
        refine go_istore (pc := 124) (L' := [.val (.ref 0), .val (.ref 1), .val (.int v2), .val (.int v3), .val (.int v4), .val (.int v5), .val (.int v6), .val (.int ((a36 &&& (15 : Int32)) % (9 : Int32))), .val (.int a50), .val (.int a58), .val (.int a66), .val (.int ((a50 &&& (7 : Int32)) % (5 : Int32))), .val (.int ((a58 &&& (7 : Int32)) % (5 : Int32))), .val (.int ((a50 &&& (15 : Int32)) % (9 : Int32))), .val (.int r102), .val (.int r110), .val (.int (k_freeCount t0)), x17, x18]) d47_124 (stx rfl hx16 rfl) (go_aloadN (pc := 126) d47_126 rfl (go_iload (pc := 127) d47_127 rfl (go_iload (pc := 129) d47_129 rfl (go_iload (pc := 131) d47_131 rfl ?_))))
        obtain ⟨r133, e47, hf⟩ := Option.bind_eq_some_iff.mp hf
        refine go_virt (pc := 133) (i := 0) (as := [.int ((a50 &&& (7 : Int32)) % (5 : Int32)), .int ((a58 &&& (7 : Int32)) % (5 : Int32)), .int a66]) (rest := []) (w' := (some q, [(8, r133.2)])) lk_1_33 pd_18 rfl oid_0 rfl rfl rfl rfl rfl rfl ⟨rfl, rfl, rfl, rfl, rfl⟩ d47_133 (c_k_mapNew ((a50 &&& (7 : Int32)) % (5 : Int32)) ((a58 &&& (7 : Int32)) % (5 : Int32)) a66 t0 _ e47) ?_
        refine go_istore (pc := 136) (L' := [.val (.ref 0), .val (.ref 1), .val (.int v2), .val (.int v3), .val (.int v4), .val (.int v5), .val (.int v6), .val (.int ((a36 &&& (15 : Int32)) % (9 : Int32))), .val (.int a50), .val (.int a58), .val (.int a66), .val (.int ((a50 &&& (7 : Int32)) % (5 : Int32))), .val (.int ((a58 &&& (7 : Int32)) % (5 : Int32))), .val (.int ((a50 &&& (15 : Int32)) % (9 : Int32))), .val (.int r102), .val (.int r110), .val (.int (k_freeCount t0)), .val (.int r133.1), x18]) d47_136 (stx rfl hx17 rfl) (go_iload (pc := 138) d47_138 rfl (go_iconst (pc := 140) d47_140 ci_3 ?_))
        by_cases h48 : (3 : Int32) < ((a50 &&& (7 : Int32)) % (5 : Int32))
        · replace hf := (if_pos h48).symm.trans hf
          refine go_icY (pc := 141) (pc' := 150) d47_141 (XT.ii_gt_t h48) j_141_9 ?_
          exact law_150_ok ih v2 v3 v4 v5 v6 r133.1 q r133.2 (.val (.int ((a36 &&& (15 : Int32)) % (9 : Int32)))) (.val (.int a50)) (.val (.int a58)) (.val (.int a66)) (.val (.int ((a50 &&& (7 : Int32)) % (5 : Int32)))) (.val (.int ((a58 &&& (7 : Int32)) % (5 : Int32)))) (.val (.int ((a50 &&& (15 : Int32)) % (9 : Int32)))) (.val (.int r102)) (.val (.int r110)) (.val (.int (k_freeCount t0))) x18 (Or.inr ⟨_, rfl, rfl⟩) (Or.inr ⟨_, rfl, rfl⟩) (Or.inr ⟨_, rfl, rfl⟩) (Or.inr ⟨_, rfl, rfl⟩) (Or.inr ⟨_, rfl, rfl⟩) (Or.inr ⟨_, rfl, rfl⟩) (Or.inr ⟨_, rfl, rfl⟩) (Or.inr ⟨_, rfl, rfl⟩) (Or.inr ⟨_, rfl, rfl⟩) (Or.inr ⟨_, rfl, rfl⟩) hx18 _ hf
        · replace hf := (if_neg h48).symm.trans hf
          refine go_icN (pc := 141) d47_141 (XT.ii_gt_f h48) ?_
          refine go_iload (pc := 144) d47_144 rfl (go_iconst (pc := 146) d47_146 ci_3 ?_)
          by_cases h49 : (3 : Int32) < ((a58 &&& (7 : Int32)) % (5 : Int32))
          · replace hf := (if_pos h49).symm.trans hf
            refine go_icN (pc := 147) d47_147 (XT.ii_le_f h49) ?_
            exact law_150_ok ih v2 v3 v4 v5 v6 r133.1 q r133.2 (.val (.int ((a36 &&& (15 : Int32)) % (9 : Int32)))) (.val (.int a50)) (.val (.int a58)) (.val (.int a66)) (.val (.int ((a50 &&& (7 : Int32)) % (5 : Int32)))) (.val (.int ((a58 &&& (7 : Int32)) % (5 : Int32)))) (.val (.int ((a50 &&& (15 : Int32)) % (9 : Int32)))) (.val (.int r102)) (.val (.int r110)) (.val (.int (k_freeCount t0))) x18 (Or.inr ⟨_, rfl, rfl⟩) (Or.inr ⟨_, rfl, rfl⟩) (Or.inr ⟨_, rfl, rfl⟩) (Or.inr ⟨_, rfl, rfl⟩) (Or.inr ⟨_, rfl, rfl⟩) (Or.inr ⟨_, rfl, rfl⟩) (Or.inr ⟨_, rfl, rfl⟩) (Or.inr ⟨_, rfl, rfl⟩) (Or.inr ⟨_, rfl, rfl⟩) (Or.inr ⟨_, rfl, rfl⟩) hx18 _ hf
          · replace hf := (if_neg h49).symm.trans hf
            refine go_icY (pc := 147) (pc' := 158) d47_147 (XT.ii_le_t h49) j_147_11 ?_
            refine go_iload (pc := 158) d47_158 rfl (go_iconst (pc := 160) d47_160 ci_m1 ?_)
            by_cases h50 : r102 = (-1 : Int32)
            · replace hf := (if_pos h50).symm.trans hf
              refine go_icY (pc := 161) (pc' := 173) d47_161 (XT.ii_eq_t h50) j_161_12 ?_
              refine go_iload (pc := 173) d47_173 rfl ?_
              by_cases h51 : (k_freeCount t0) = 0
              · replace hf := (if_pos h51).symm.trans hf
                refine go_ifN (pc := 175) d47_175 (XT.i0_ne_f h51) ?_
                refine go_iload (pc := 178) d47_178 rfl (go_bipush (pc := 180) d47_180 cb_m4 ?_)
                by_cases h64 : r133.1 = (-4 : Int32)
                · replace hf := (if_pos h64).symm.trans hf
                  refine go_icY (pc := 182) (pc' := 293) d47_182 (XT.ii_eq_t h64) j_182_111 ?_
                  exact law_293_ok ih v2 v3 v4 v5 v6 q r133.2 (.val (.int ((a36 &&& (15 : Int32)) % (9 : Int32)))) (.val (.int a50)) (.val (.int a58)) (.val (.int a66)) (.val (.int ((a50 &&& (7 : Int32)) % (5 : Int32)))) (.val (.int ((a58 &&& (7 : Int32)) % (5 : Int32)))) (.val (.int ((a50 &&& (15 : Int32)) % (9 : Int32)))) (.val (.int r102)) (.val (.int r110)) (.val (.int (k_freeCount t0))) (.val (.int r133.1)) x18 (Or.inr ⟨_, rfl, rfl⟩) (Or.inr ⟨_, rfl, rfl⟩) (Or.inr ⟨_, rfl, rfl⟩) (Or.inr ⟨_, rfl, rfl⟩) (Or.inr ⟨_, rfl, rfl⟩) (Or.inr ⟨_, rfl, rfl⟩) (Or.inr ⟨_, rfl, rfl⟩) (Or.inr ⟨_, rfl, rfl⟩) (Or.inr ⟨_, rfl, rfl⟩) (Or.inr ⟨_, rfl, rfl⟩) (Or.inr ⟨_, rfl, rfl⟩) hx18 _ hf
                · replace hf := (if_neg h64).symm.trans hf
                  refine go_icN (pc := 182) d47_182 (XT.ii_eq_f h64) ?_
                  refine go_iconst (pc := 185) d47_185 ci_0 ?_
                  cases hf
                  exact go_zret (pc := 186) rfl d47_186 (show (0 : Int32) = nar .boolean (0 : Int32) by decide)
              · replace hf := (if_neg h51).symm.trans hf
                refine go_ifY (pc := 175) (pc' := 187) d47_175 (XT.i0_ne_t h51) j_175_12 ?_
                refine go_iload (pc := 187) d47_187 rfl ?_
                by_cases h52 : r133.1 < 0
                · replace hf := (if_pos h52).symm.trans hf
                  refine go_ifY (pc := 189) (pc' := 225) d47_189 (XT.i0_lt_t h52) j_189_36 ?_
                  refine go_iconst (pc := 225) d47_225 ci_0 ?_
                  cases hf
                  exact go_zret (pc := 226) rfl d47_226 (show (0 : Int32) = nar .boolean (0 : Int32) by decide)
                · replace hf := (if_neg h52).symm.trans hf
                  refine go_ifN (pc := 189) d47_189 (XT.i0_lt_f h52) ?_
                  refine go_iload (pc := 192) d47_192 rfl (go_bipush (pc := 194) d47_194 cb_7 ?_)
                  by_cases h53 : (7 : Int32) < r133.1
                  · replace hf := (if_pos h53).symm.trans hf
                    refine go_icY (pc := 196) (pc' := 225) d47_196 (XT.ii_gt_t h53) j_196_29 ?_
                    refine go_iconst (pc := 225) d47_225 ci_0 ?_
                    cases hf
                    exact go_zret (pc := 226) rfl d47_226 (show (0 : Int32) = nar .boolean (0 : Int32) by decide)
                  · replace hf := (if_neg h53).symm.trans hf
                    refine go_icN (pc := 196) d47_196 (XT.ii_gt_f h53) ?_
                    refine go_aloadN (pc := 199) d47_199 rfl (go_iload (pc := 200) d47_200 rfl (go_iload (pc := 202) d47_202 rfl ?_))
                    obtain ⟨r204, e54, hf⟩ := Option.bind_eq_some_iff.mp hf
                    refine go_virt (pc := 204) (i := 0) (as := [.int ((a50 &&& (7 : Int32)) % (5 : Int32)), .int ((a58 &&& (7 : Int32)) % (5 : Int32))]) (rest := []) (w' := (some q, [(8, r133.2)])) lk_1_29 pd_8 rfl oid_0 rfl rfl rfl rfl rfl rfl ⟨rfl, rfl, rfl, rfl, rfl⟩ d47_204 (c_k_frameOf ((a50 &&& (7 : Int32)) % (5 : Int32)) ((a58 &&& (7 : Int32)) % (5 : Int32)) r133.2 _ e54) ?_
                    refine go_iload (pc := 207) d47_207 rfl ?_
                    by_cases h55 : r204 = r133.1
                    · replace hf := (if_pos h55).symm.trans hf
                      refine go_icN (pc := 209) d47_209 (XT.ii_ne_f h55) ?_
                      refine go_aloadN (pc := 212) d47_212 rfl (go_iload (pc := 213) d47_213 rfl (go_iload (pc := 215) d47_215 rfl ?_))
                      obtain ⟨r217, e56, hf⟩ := Option.bind_eq_some_iff.mp hf
                      refine go_virt (pc := 217) (i := 0) (as := [.int ((a50 &&& (7 : Int32)) % (5 : Int32)), .int ((a58 &&& (7 : Int32)) % (5 : Int32))]) (rest := []) (w' := (some q, [(8, r133.2)])) lk_1_37 pd_19 rfl oid_0 rfl rfl rfl rfl rfl rfl ⟨rfl, rfl, rfl, rfl, rfl⟩ d47_217 (c_k_read ((a50 &&& (7 : Int32)) % (5 : Int32)) ((a58 &&& (7 : Int32)) % (5 : Int32)) r133.2 _ e56) ?_
                      refine go_iload (pc := 220) d47_220 rfl ?_
                      by_cases h57 : r217 = a66
                      · replace hf := (if_pos h57).symm.trans hf
                        refine go_icY (pc := 222) (pc' := 227) d47_222 (XT.ii_eq_t h57) j_222_5 ?_
                        refine go_aloadN (pc := 227) d47_227 rfl (go_iload (pc := 228) d47_228 rfl ?_)
                        obtain ⟨r230, e58, hf⟩ := Option.bind_eq_some_iff.mp hf
                        refine go_virt (pc := 230) (i := 0) (as := [.int r133.1]) (rest := []) (w' := (some q, [(8, r133.2)])) lk_1_13 pd_20 rfl oid_0 rfl rfl rfl rfl rfl rfl ⟨rfl, rfl, rfl, rfl, rfl⟩ d47_230 (c_k_mapCount r133.1 r133.2 _ e58) ?_
                        refine go_iconst (pc := 233) d47_233 ci_1 ?_
                        by_cases h59 : r230 = (1 : Int32)
                        · replace hf := (if_pos h59).symm.trans hf
                          refine go_icN (pc := 234) d47_234 (XT.ii_ne_f h59) ?_
                          refine go_aloadN (pc := 237) d47_237 rfl (go_iload (pc := 238) d47_238 rfl ?_)
                          obtain ⟨r240, e60, hf⟩ := Option.bind_eq_some_iff.mp hf
                          refine go_virt (pc := 240) (i := 0) (as := [.int r133.1]) (rest := []) (w' := (some q, [(8, r133.2)])) lk_1_7 pd_9 rfl oid_0 rfl rfl rfl rfl rfl rfl ⟨rfl, rfl, rfl, rfl, rfl⟩ d47_240 (c_k_frameState r133.1 r133.2 _ e60) ?_
                          refine go_iconst (pc := 243) d47_243 ci_1 ?_
                          by_cases h61 : r240 = (1 : Int32)
                          · replace hf := (if_pos h61).symm.trans hf
                            refine go_icN (pc := 244) d47_244 (XT.ii_ne_f h61) ?_
                            refine go_aloadN (pc := 247) d47_247 rfl (go_iload (pc := 248) d47_248 rfl ?_)
                            obtain ⟨r250, e62, hf⟩ := Option.bind_eq_some_iff.mp hf
                            refine go_virt (pc := 250) (i := 0) (as := [.int r133.1]) (rest := []) (w' := (some q, [(8, r133.2)])) lk_1_16 pd_21 rfl oid_0 rfl rfl rfl rfl rfl rfl ⟨rfl, rfl, rfl, rfl, rfl⟩ d47_250 (c_k_frameValue r133.1 r133.2 _ e62) ?_
                            refine go_iload (pc := 253) d47_253 rfl ?_
                            by_cases h63 : r250 = a66
                            · replace hf := (if_pos h63).symm.trans hf
                              refine go_icY (pc := 255) (pc' := 260) d47_255 (XT.ii_eq_t h63) j_255_5 ?_
                              refine go_iconst (pc := 260) d47_260 ci_0 (go_istore (pc := 261) (L' := [.val (.ref 0), .val (.ref 1), .val (.int v2), .val (.int v3), .val (.int v4), .val (.int v5), .val (.int v6), .val (.int ((a36 &&& (15 : Int32)) % (9 : Int32))), .val (.int a50), .val (.int a58), .val (.int a66), .val (.int ((a50 &&& (7 : Int32)) % (5 : Int32))), .val (.int ((a58 &&& (7 : Int32)) % (5 : Int32))), .val (.int ((a50 &&& (15 : Int32)) % (9 : Int32))), .val (.int r102), .val (.int r110), .val (.int (k_freeCount t0)), .val (.int r133.1), .val (.int (0 : Int32))]) d47_261 (stx rfl hx18 rfl) ?_)
                              exact law_263_ok ih BIG v2 v3 v4 v5 v6 r133.1 (0 : Int32) q r133.2 (.val (.int ((a36 &&& (15 : Int32)) % (9 : Int32)))) (.val (.int a50)) (.val (.int a58)) (.val (.int a66)) (.val (.int ((a50 &&& (7 : Int32)) % (5 : Int32)))) (.val (.int ((a58 &&& (7 : Int32)) % (5 : Int32)))) (.val (.int ((a50 &&& (15 : Int32)) % (9 : Int32)))) (.val (.int r102)) (.val (.int r110)) (.val (.int (k_freeCount t0))) (Or.inr ⟨_, rfl, rfl⟩) (Or.inr ⟨_, rfl, rfl⟩) (Or.inr ⟨_, rfl, rfl⟩) (Or.inr ⟨_, rfl, rfl⟩) (Or.inr ⟨_, rfl, rfl⟩) (Or.inr ⟨_, rfl, rfl⟩) (Or.inr ⟨_, rfl, rfl⟩) (Or.inr ⟨_, rfl, rfl⟩) (Or.inr ⟨_, rfl, rfl⟩) (Or.inr ⟨_, rfl, rfl⟩) _ hf
                            · replace hf := (if_neg h63).symm.trans hf
                              refine go_icN (pc := 255) d47_255 (XT.ii_eq_f h63) ?_
                              refine go_iconst (pc := 258) d47_258 ci_0 ?_
                              cases hf
                              exact go_zret (pc := 259) rfl d47_259 (show (0 : Int32) = nar .boolean (0 : Int32) by decide)
                          · replace hf := (if_neg h61).symm.trans hf
                            refine go_icY (pc := 244) (pc' := 258) d47_244 (XT.ii_ne_t h61) j_244_14 ?_
                            refine go_iconst (pc := 258) d47_258 ci_0 ?_
                            cases hf
                            exact go_zret (pc := 259) rfl d47_259 (show (0 : Int32) = nar .boolean (0 : Int32) by decide)
                        · replace hf := (if_neg h59).symm.trans hf
                          refine go_icY (pc := 234) (pc' := 258) d47_234 (XT.ii_ne_t h59) j_234_24 ?_
                          refine go_iconst (pc := 258) d47_258 ci_0 ?_
                          cases hf
                          exact go_zret (pc := 259) rfl d47_259 (show (0 : Int32) = nar .boolean (0 : Int32) by decide)
                      · replace hf := (if_neg h57).symm.trans hf
                        refine go_icN (pc := 222) d47_222 (XT.ii_eq_f h57) ?_
                        refine go_iconst (pc := 225) d47_225 ci_0 ?_
                        cases hf
                        exact go_zret (pc := 226) rfl d47_226 (show (0 : Int32) = nar .boolean (0 : Int32) by decide)
                    · replace hf := (if_neg h55).symm.trans hf
                      refine go_icY (pc := 209) (pc' := 225) d47_209 (XT.ii_ne_t h55) j_209_16 ?_
                      refine go_iconst (pc := 225) d47_225 ci_0 ?_
                      cases hf
                      exact go_zret (pc := 226) rfl d47_226 (show (0 : Int32) = nar .boolean (0 : Int32) by decide)
            · replace hf := (if_neg h50).symm.trans hf
              refine go_icN (pc := 161) d47_161 (XT.ii_eq_f h50) ?_
              refine go_iload (pc := 164) d47_164 rfl (go_bipush (pc := 166) d47_166 cb_m2 ?_)
              by_cases h65 : r133.1 = (-2 : Int32)
              · replace hf := (if_pos h65).symm.trans hf
                refine go_icY (pc := 168) (pc' := 293) d47_168 (XT.ii_eq_t h65) j_168_125 ?_
                exact law_293_ok ih v2 v3 v4 v5 v6 q r133.2 (.val (.int ((a36 &&& (15 : Int32)) % (9 : Int32)))) (.val (.int a50)) (.val (.int a58)) (.val (.int a66)) (.val (.int ((a50 &&& (7 : Int32)) % (5 : Int32)))) (.val (.int ((a58 &&& (7 : Int32)) % (5 : Int32)))) (.val (.int ((a50 &&& (15 : Int32)) % (9 : Int32)))) (.val (.int r102)) (.val (.int r110)) (.val (.int (k_freeCount t0))) (.val (.int r133.1)) x18 (Or.inr ⟨_, rfl, rfl⟩) (Or.inr ⟨_, rfl, rfl⟩) (Or.inr ⟨_, rfl, rfl⟩) (Or.inr ⟨_, rfl, rfl⟩) (Or.inr ⟨_, rfl, rfl⟩) (Or.inr ⟨_, rfl, rfl⟩) (Or.inr ⟨_, rfl, rfl⟩) (Or.inr ⟨_, rfl, rfl⟩) (Or.inr ⟨_, rfl, rfl⟩) (Or.inr ⟨_, rfl, rfl⟩) (Or.inr ⟨_, rfl, rfl⟩) hx18 _ hf
              · replace hf := (if_neg h65).symm.trans hf
                refine go_icN (pc := 168) d47_168 (XT.ii_eq_f h65) ?_
                refine go_iconst (pc := 171) d47_171 ci_0 ?_
                cases hf
                exact go_zret (pc := 172) rfl d47_172 (show (0 : Int32) = nar .boolean (0 : Int32) by decide)
      · replace hf := (if_neg h8).symm.trans hf
        refine go_ifY (pc := 117) (pc' := 296) d47_117 (XT.i0_ne_t h8) j_117_179 ?_
        refine go_iload (pc := 296) d47_296 rfl (go_iconst (pc := 298) d47_298 ci_1 ?_)
        by_cases h9 : ((a36 &&& (15 : Int32)) % (9 : Int32)) = (1 : Int32)
        · replace hf := (if_pos h9).symm.trans hf
          refine go_icN (pc := 299) d47_299 (XT.ii_ne_f h9) ?_
          refine go_aloadN (pc := 302) d47_302 rfl (go_iload (pc := 303) d47_303 rfl (go_iconst (pc := 305) d47_305 ci_3 (go_iand (pc := 306) d47_306 (go_iload (pc := 307) d47_307 rfl (go_iconst (pc := 309) d47_309 ci_2 (go_ishr (pc := 310) d47_310 (go_iconst (pc := 311) d47_311 ci_3 ?_)))))))
          refine go_iand (pc := 312) d47_312 ?_
          obtain ⟨r313, e41, hf⟩ := Option.bind_eq_some_iff.mp hf
          refine go_virt (pc := 313) (i := 0) (as := [.int (a66 &&& (3 : Int32)), .int ((a66 >>> ((2 : Int32) &&& 31)) &&& (3 : Int32))]) (rest := []) (w' := (some q, [(8, t0)])) lk_1_29 pd_8 rfl oid_0 rfl rfl rfl rfl rfl rfl ⟨rfl, rfl, rfl, rfl, rfl⟩ d47_313 (c_k_frameOf (a66 &&& (3 : Int32)) ((a66 >>> ((2 : Int32) &&& 31)) &&& (3 : Int32)) t0 _ e41) ?_
          refine go_istore (pc := 316) (L' := [.val (.ref 0), .val (.ref 1), .val (.int v2), .val (.int v3), .val (.int v4), .val (.int v5), .val (.int v6), .val (.int ((a36 &&& (15 : Int32)) % (9 : Int32))), .val (.int a50), .val (.int a58), .val (.int a66), .val (.int ((a50 &&& (7 : Int32)) % (5 : Int32))), .val (.int ((a58 &&& (7 : Int32)) % (5 : Int32))), .val (.int ((a50 &&& (15 : Int32)) % (9 : Int32))), .val (.int r102), .val (.int r110), .val (.int r313), x17, x18]) d47_316 (stx rfl hx16 rfl) (go_aloadN (pc := 318) d47_318 rfl (go_iload (pc := 319) d47_319 rfl (go_iload (pc := 321) d47_321 rfl (go_iload (pc := 323) d47_323 rfl (go_iconst (pc := 325) d47_325 ci_3 (go_iand (pc := 326) d47_326 (go_iload (pc := 327) d47_327 rfl ?_)))))))
          refine go_iconst (pc := 329) d47_329 ci_2 (go_ishr (pc := 330) d47_330 (go_iconst (pc := 331) d47_331 ci_3 (go_iand (pc := 332) d47_332 ?_)))
          obtain ⟨r333, e42, hf⟩ := Option.bind_eq_some_iff.mp hf
          refine go_virt (pc := 333) (i := 0) (as := [.int ((a50 &&& (7 : Int32)) % (5 : Int32)), .int ((a58 &&& (7 : Int32)) % (5 : Int32)), .int (a66 &&& (3 : Int32)), .int ((a66 >>> ((2 : Int32) &&& 31)) &&& (3 : Int32))]) (rest := []) (w' := (some q, [(8, r333.2)])) lk_1_40 pd_22 rfl oid_0 rfl rfl rfl rfl rfl rfl ⟨rfl, rfl, rfl, rfl, rfl⟩ d47_333 (c_k_share ((a50 &&& (7 : Int32)) % (5 : Int32)) ((a58 &&& (7 : Int32)) % (5 : Int32)) (a66 &&& (3 : Int32)) ((a66 >>> ((2 : Int32) &&& 31)) &&& (3 : Int32)) t0 _ e42) ?_
          refine go_istore (pc := 336) (L' := [.val (.ref 0), .val (.ref 1), .val (.int v2), .val (.int v3), .val (.int v4), .val (.int v5), .val (.int v6), .val (.int ((a36 &&& (15 : Int32)) % (9 : Int32))), .val (.int a50), .val (.int a58), .val (.int a66), .val (.int ((a50 &&& (7 : Int32)) % (5 : Int32))), .val (.int ((a58 &&& (7 : Int32)) % (5 : Int32))), .val (.int ((a50 &&& (15 : Int32)) % (9 : Int32))), .val (.int r102), .val (.int r110), .val (.int r313), .val (.int r333.1), x18]) d47_336 (stx rfl hx17 rfl) (go_iload (pc := 338) d47_338 rfl (go_iconst (pc := 340) d47_340 ci_3 ?_))
          by_cases h43 : (3 : Int32) < ((a50 &&& (7 : Int32)) % (5 : Int32))
          · refine go_icY (pc := 341) (pc' := 365) d47_341 (XT.ii_gt_t h43) j_341_24 ?_
            refine go_iconst (pc := 365) d47_365 ci_0 ?_
            exact law_366_ok ih v2 v3 v4 v5 v6 ((a50 &&& (7 : Int32)) % (5 : Int32)) ((a58 &&& (7 : Int32)) % (5 : Int32)) r313 r333.1 (0 : Int32) q r333.2 (.val (.int ((a36 &&& (15 : Int32)) % (9 : Int32)))) (.val (.int a50)) (.val (.int a58)) (.val (.int a66)) (.val (.int ((a50 &&& (15 : Int32)) % (9 : Int32)))) (.val (.int r102)) (.val (.int r110)) x18 (Or.inr ⟨_, rfl, rfl⟩) (Or.inr ⟨_, rfl, rfl⟩) (Or.inr ⟨_, rfl, rfl⟩) (Or.inr ⟨_, rfl, rfl⟩) (Or.inr ⟨_, rfl, rfl⟩) (Or.inr ⟨_, rfl, rfl⟩) (Or.inr ⟨_, rfl, rfl⟩) hx18 _ (by simpa only [if_pos h43] using hf)
          · refine go_icN (pc := 341) d47_341 (XT.ii_gt_f h43) ?_
            refine go_iload (pc := 344) d47_344 rfl (go_iconst (pc := 346) d47_346 ci_3 ?_)
            by_cases h44 : (3 : Int32) < ((a58 &&& (7 : Int32)) % (5 : Int32))
            · refine go_icY (pc := 347) (pc' := 365) d47_347 (XT.ii_gt_t h44) j_347_18 ?_
              refine go_iconst (pc := 365) d47_365 ci_0 ?_
              exact law_366_ok ih v2 v3 v4 v5 v6 ((a50 &&& (7 : Int32)) % (5 : Int32)) ((a58 &&& (7 : Int32)) % (5 : Int32)) r313 r333.1 (0 : Int32) q r333.2 (.val (.int ((a36 &&& (15 : Int32)) % (9 : Int32)))) (.val (.int a50)) (.val (.int a58)) (.val (.int a66)) (.val (.int ((a50 &&& (15 : Int32)) % (9 : Int32)))) (.val (.int r102)) (.val (.int r110)) x18 (Or.inr ⟨_, rfl, rfl⟩) (Or.inr ⟨_, rfl, rfl⟩) (Or.inr ⟨_, rfl, rfl⟩) (Or.inr ⟨_, rfl, rfl⟩) (Or.inr ⟨_, rfl, rfl⟩) (Or.inr ⟨_, rfl, rfl⟩) (Or.inr ⟨_, rfl, rfl⟩) hx18 _ (by simpa only [if_neg h43, if_pos h44] using hf)
            · refine go_icN (pc := 347) d47_347 (XT.ii_gt_f h44) ?_
              refine go_iload (pc := 350) d47_350 rfl (go_iconst (pc := 352) d47_352 ci_m1 ?_)
              by_cases h45 : r102 = (-1 : Int32)
              · refine go_icN (pc := 353) d47_353 (XT.ii_ne_f h45) ?_
                refine go_iload (pc := 356) d47_356 rfl ?_
                by_cases h46 : r313 < 0
                · refine go_ifY (pc := 358) (pc' := 365) d47_358 (XT.i0_lt_t h46) j_358_7 ?_
                  refine go_iconst (pc := 365) d47_365 ci_0 ?_
                  exact law_366_ok ih v2 v3 v4 v5 v6 ((a50 &&& (7 : Int32)) % (5 : Int32)) ((a58 &&& (7 : Int32)) % (5 : Int32)) r313 r333.1 (0 : Int32) q r333.2 (.val (.int ((a36 &&& (15 : Int32)) % (9 : Int32)))) (.val (.int a50)) (.val (.int a58)) (.val (.int a66)) (.val (.int ((a50 &&& (15 : Int32)) % (9 : Int32)))) (.val (.int r102)) (.val (.int r110)) x18 (Or.inr ⟨_, rfl, rfl⟩) (Or.inr ⟨_, rfl, rfl⟩) (Or.inr ⟨_, rfl, rfl⟩) (Or.inr ⟨_, rfl, rfl⟩) (Or.inr ⟨_, rfl, rfl⟩) (Or.inr ⟨_, rfl, rfl⟩) (Or.inr ⟨_, rfl, rfl⟩) hx18 _ (by simpa only [if_neg h43, if_neg h44, if_pos h45, if_pos h46] using hf)
                · refine go_ifN (pc := 358) d47_358 (XT.i0_lt_f h46) ?_
                  refine go_iconst (pc := 361) d47_361 ci_1 (go_goto (pc := 362) (pc' := 366) d47_362 j_362_4 ?_)
                  exact law_366_ok ih v2 v3 v4 v5 v6 ((a50 &&& (7 : Int32)) % (5 : Int32)) ((a58 &&& (7 : Int32)) % (5 : Int32)) r313 r333.1 (1 : Int32) q r333.2 (.val (.int ((a36 &&& (15 : Int32)) % (9 : Int32)))) (.val (.int a50)) (.val (.int a58)) (.val (.int a66)) (.val (.int ((a50 &&& (15 : Int32)) % (9 : Int32)))) (.val (.int r102)) (.val (.int r110)) x18 (Or.inr ⟨_, rfl, rfl⟩) (Or.inr ⟨_, rfl, rfl⟩) (Or.inr ⟨_, rfl, rfl⟩) (Or.inr ⟨_, rfl, rfl⟩) (Or.inr ⟨_, rfl, rfl⟩) (Or.inr ⟨_, rfl, rfl⟩) (Or.inr ⟨_, rfl, rfl⟩) hx18 _ (by simpa only [if_neg h43, if_neg h44, if_pos h45, if_neg h46] using hf)
              · refine go_icY (pc := 353) (pc' := 365) d47_353 (XT.ii_ne_t h45) j_353_12 ?_
                refine go_iconst (pc := 365) d47_365 ci_0 ?_
                exact law_366_ok ih v2 v3 v4 v5 v6 ((a50 &&& (7 : Int32)) % (5 : Int32)) ((a58 &&& (7 : Int32)) % (5 : Int32)) r313 r333.1 (0 : Int32) q r333.2 (.val (.int ((a36 &&& (15 : Int32)) % (9 : Int32)))) (.val (.int a50)) (.val (.int a58)) (.val (.int a66)) (.val (.int ((a50 &&& (15 : Int32)) % (9 : Int32)))) (.val (.int r102)) (.val (.int r110)) x18 (Or.inr ⟨_, rfl, rfl⟩) (Or.inr ⟨_, rfl, rfl⟩) (Or.inr ⟨_, rfl, rfl⟩) (Or.inr ⟨_, rfl, rfl⟩) (Or.inr ⟨_, rfl, rfl⟩) (Or.inr ⟨_, rfl, rfl⟩) (Or.inr ⟨_, rfl, rfl⟩) hx18 _ (by simpa only [if_neg h43, if_neg h44, if_neg h45] using hf)
        · replace hf := (if_neg h9).symm.trans hf
          refine go_icY (pc := 299) (pc' := 418) d47_299 (XT.ii_ne_t h9) j_299_119 ?_
          refine go_iload (pc := 418) d47_418 rfl (go_iconst (pc := 420) d47_420 ci_2 ?_)
          by_cases h10 : ((a36 &&& (15 : Int32)) % (9 : Int32)) = (2 : Int32)
          · replace hf := (if_pos h10).symm.trans hf
            refine go_icN (pc := 421) d47_421 (XT.ii_ne_f h10) ?_
            refine go_aloadN (pc := 424) d47_424 rfl (go_iload (pc := 425) d47_425 rfl ?_)
            obtain ⟨r427, e33, hf⟩ := Option.bind_eq_some_iff.mp hf
            refine go_virt (pc := 427) (i := 0) (as := [.int r102]) (rest := []) (w' := (some q, [(8, t0)])) lk_1_13 pd_20 rfl oid_0 rfl rfl rfl rfl rfl rfl ⟨rfl, rfl, rfl, rfl, rfl⟩ d47_427 (c_k_mapCount r102 t0 _ e33) ?_
            refine go_istore (pc := 430) (L' := [.val (.ref 0), .val (.ref 1), .val (.int v2), .val (.int v3), .val (.int v4), .val (.int v5), .val (.int v6), .val (.int ((a36 &&& (15 : Int32)) % (9 : Int32))), .val (.int a50), .val (.int a58), .val (.int a66), .val (.int ((a50 &&& (7 : Int32)) % (5 : Int32))), .val (.int ((a58 &&& (7 : Int32)) % (5 : Int32))), .val (.int ((a50 &&& (15 : Int32)) % (9 : Int32))), .val (.int r102), .val (.int r110), .val (.int r427), x17, x18]) d47_430 (stx rfl hx16 rfl) (go_aloadN (pc := 432) d47_432 rfl (go_iload (pc := 433) d47_433 rfl ?_))
            obtain ⟨r435, e34, hf⟩ := Option.bind_eq_some_iff.mp hf
            refine go_virt (pc := 435) (i := 0) (as := [.int r102]) (rest := []) (w' := (some q, [(8, t0)])) lk_1_7 pd_9 rfl oid_0 rfl rfl rfl rfl rfl rfl ⟨rfl, rfl, rfl, rfl, rfl⟩ d47_435 (c_k_frameState r102 t0 _ e34) ?_
            refine go_istore (pc := 438) (L' := [.val (.ref 0), .val (.ref 1), .val (.int v2), .val (.int v3), .val (.int v4), .val (.int v5), .val (.int v6), .val (.int ((a36 &&& (15 : Int32)) % (9 : Int32))), .val (.int a50), .val (.int a58), .val (.int a66), .val (.int ((a50 &&& (7 : Int32)) % (5 : Int32))), .val (.int ((a58 &&& (7 : Int32)) % (5 : Int32))), .val (.int ((a50 &&& (15 : Int32)) % (9 : Int32))), .val (.int r102), .val (.int r110), .val (.int r427), .val (.int r435), x18]) d47_438 (stx rfl hx17 rfl) (go_aloadN (pc := 440) d47_440 rfl (go_iload (pc := 441) d47_441 rfl (go_iload (pc := 443) d47_443 rfl ?_)))
            obtain ⟨r445, e35, hf⟩ := Option.bind_eq_some_iff.mp hf
            refine go_virt (pc := 445) (i := 0) (as := [.int ((a50 &&& (7 : Int32)) % (5 : Int32)), .int ((a58 &&& (7 : Int32)) % (5 : Int32))]) (rest := []) (w' := (some q, [(8, r445.2)])) lk_1_44 pd_26 rfl oid_0 rfl rfl rfl rfl rfl rfl ⟨rfl, rfl, rfl, rfl, rfl⟩ d47_445 (c_k_unmap ((a50 &&& (7 : Int32)) % (5 : Int32)) ((a58 &&& (7 : Int32)) % (5 : Int32)) t0 _ e35) ?_
            refine go_istore (pc := 448) (L' := [.val (.ref 0), .val (.ref 1), .val (.int v2), .val (.int v3), .val (.int v4), .val (.int v5), .val (.int v6), .val (.int ((a36 &&& (15 : Int32)) % (9 : Int32))), .val (.int a50), .val (.int a58), .val (.int a66), .val (.int ((a50 &&& (7 : Int32)) % (5 : Int32))), .val (.int ((a58 &&& (7 : Int32)) % (5 : Int32))), .val (.int ((a50 &&& (15 : Int32)) % (9 : Int32))), .val (.int r102), .val (.int r110), .val (.int r427), .val (.int r435), .val (.int r445.1)]) d47_448 (stx rfl hx18 rfl) (go_iload (pc := 450) d47_450 rfl ?_)
            by_cases h36 : r102 < 0
            · replace hf := (if_pos h36).symm.trans hf
              refine go_ifY (pc := 452) (pc' := 488) d47_452 (XT.i0_lt_t h36) j_452_36 ?_
              refine go_iload (pc := 488) d47_488 rfl ?_
              by_cases h37 : r445.1 < 0
              · replace hf := (if_pos h37).symm.trans hf
                refine go_ifY (pc := 490) (pc' := 495) d47_490 (XT.i0_lt_t h37) j_490_5 ?_
                exact law_495_ok ih v2 v3 v4 v5 v6 q r445.2 (.val (.int ((a36 &&& (15 : Int32)) % (9 : Int32)))) (.val (.int a50)) (.val (.int a58)) (.val (.int a66)) (.val (.int ((a50 &&& (7 : Int32)) % (5 : Int32)))) (.val (.int ((a58 &&& (7 : Int32)) % (5 : Int32)))) (.val (.int ((a50 &&& (15 : Int32)) % (9 : Int32)))) (.val (.int r102)) (.val (.int r110)) (.val (.int r427)) (.val (.int r435)) (.val (.int r445.1)) (Or.inr ⟨_, rfl, rfl⟩) (Or.inr ⟨_, rfl, rfl⟩) (Or.inr ⟨_, rfl, rfl⟩) (Or.inr ⟨_, rfl, rfl⟩) (Or.inr ⟨_, rfl, rfl⟩) (Or.inr ⟨_, rfl, rfl⟩) (Or.inr ⟨_, rfl, rfl⟩) (Or.inr ⟨_, rfl, rfl⟩) (Or.inr ⟨_, rfl, rfl⟩) (Or.inr ⟨_, rfl, rfl⟩) (Or.inr ⟨_, rfl, rfl⟩) (Or.inr ⟨_, rfl, rfl⟩) _ hf
              · replace hf := (if_neg h37).symm.trans hf
                refine go_ifN (pc := 490) d47_490 (XT.i0_lt_f h37) ?_
                refine go_iconst (pc := 493) d47_493 ci_0 ?_
                cases hf
                exact go_zret (pc := 494) rfl d47_494 (show (0 : Int32) = nar .boolean (0 : Int32) by decide)
            · replace hf := (if_neg h36).symm.trans hf
              refine go_ifN (pc := 452) d47_452 (XT.i0_lt_f h36) ?_
              refine go_iload (pc := 455) d47_455 rfl (go_iload (pc := 457) d47_457 rfl ?_)
              by_cases h38 : r445.1 = r102
              · replace hf := (if_pos h38).symm.trans hf
                refine go_icY (pc := 459) (pc' := 464) d47_459 (XT.ii_eq_t h38) j_459_5 ?_
                refine go_iinc (pc := 464) (L' := [.val (.ref 0), .val (.ref 1), .val (.int (v2 + (-1 : Int32))), .val (.int v3), .val (.int v4), .val (.int v5), .val (.int v6), .val (.int ((a36 &&& (15 : Int32)) % (9 : Int32))), .val (.int a50), .val (.int a58), .val (.int a66), .val (.int ((a50 &&& (7 : Int32)) % (5 : Int32))), .val (.int ((a58 &&& (7 : Int32)) % (5 : Int32))), .val (.int ((a50 &&& (15 : Int32)) % (9 : Int32))), .val (.int r102), .val (.int r110), .val (.int r427), .val (.int r435), .val (.int r445.1)]) d47_464 rfl ci_m1 rfl (go_iload (pc := 467) d47_467 rfl (go_iconst (pc := 469) d47_469 ci_1 ?_))
                by_cases h39 : r427 = (1 : Int32)
                · refine go_icN (pc := 470) d47_470 (XT.ii_ne_f h39) ?_
                  refine go_iinc (pc := 473) (L' := [.val (.ref 0), .val (.ref 1), .val (.int (v2 + (-1 : Int32))), .val (.int (v3 + (-1 : Int32))), .val (.int v4), .val (.int v5), .val (.int v6), .val (.int ((a36 &&& (15 : Int32)) % (9 : Int32))), .val (.int a50), .val (.int a58), .val (.int a66), .val (.int ((a50 &&& (7 : Int32)) % (5 : Int32))), .val (.int ((a58 &&& (7 : Int32)) % (5 : Int32))), .val (.int ((a50 &&& (15 : Int32)) % (9 : Int32))), .val (.int r102), .val (.int r110), .val (.int r427), .val (.int r435), .val (.int r445.1)]) d47_473 rfl ci_m1 rfl (go_iload (pc := 476) d47_476 rfl (go_iconst (pc := 478) d47_478 ci_2 ?_))
                  by_cases h40 : r435 = (2 : Int32)
                  · refine go_icN (pc := 479) d47_479 (XT.ii_ne_f h40) ?_
                    refine go_iinc (pc := 482) (L' := [.val (.ref 0), .val (.ref 1), .val (.int (v2 + (-1 : Int32))), .val (.int (v3 + (-1 : Int32))), .val (.int v4), .val (.int (v5 + (-1 : Int32))), .val (.int v6), .val (.int ((a36 &&& (15 : Int32)) % (9 : Int32))), .val (.int a50), .val (.int a58), .val (.int a66), .val (.int ((a50 &&& (7 : Int32)) % (5 : Int32))), .val (.int ((a58 &&& (7 : Int32)) % (5 : Int32))), .val (.int ((a50 &&& (15 : Int32)) % (9 : Int32))), .val (.int r102), .val (.int r110), .val (.int r427), .val (.int r435), .val (.int r445.1)]) d47_482 rfl ci_m1 rfl (go_goto (pc := 485) (pc' := 495) d47_485 j_485_10 ?_)
                    exact law_495_ok ih (v2 + (-1 : Int32)) (v3 + (-1 : Int32)) v4 (v5 + (-1 : Int32)) v6 q r445.2 (.val (.int ((a36 &&& (15 : Int32)) % (9 : Int32)))) (.val (.int a50)) (.val (.int a58)) (.val (.int a66)) (.val (.int ((a50 &&& (7 : Int32)) % (5 : Int32)))) (.val (.int ((a58 &&& (7 : Int32)) % (5 : Int32)))) (.val (.int ((a50 &&& (15 : Int32)) % (9 : Int32)))) (.val (.int r102)) (.val (.int r110)) (.val (.int r427)) (.val (.int r435)) (.val (.int r445.1)) (Or.inr ⟨_, rfl, rfl⟩) (Or.inr ⟨_, rfl, rfl⟩) (Or.inr ⟨_, rfl, rfl⟩) (Or.inr ⟨_, rfl, rfl⟩) (Or.inr ⟨_, rfl, rfl⟩) (Or.inr ⟨_, rfl, rfl⟩) (Or.inr ⟨_, rfl, rfl⟩) (Or.inr ⟨_, rfl, rfl⟩) (Or.inr ⟨_, rfl, rfl⟩) (Or.inr ⟨_, rfl, rfl⟩) (Or.inr ⟨_, rfl, rfl⟩) (Or.inr ⟨_, rfl, rfl⟩) _ (by simpa only [if_pos h39, if_pos h40] using hf)
                  · refine go_icY (pc := 479) (pc' := 495) d47_479 (XT.ii_ne_t h40) j_479_16 ?_
                    exact law_495_ok ih (v2 + (-1 : Int32)) (v3 + (-1 : Int32)) v4 v5 v6 q r445.2 (.val (.int ((a36 &&& (15 : Int32)) % (9 : Int32)))) (.val (.int a50)) (.val (.int a58)) (.val (.int a66)) (.val (.int ((a50 &&& (7 : Int32)) % (5 : Int32)))) (.val (.int ((a58 &&& (7 : Int32)) % (5 : Int32)))) (.val (.int ((a50 &&& (15 : Int32)) % (9 : Int32)))) (.val (.int r102)) (.val (.int r110)) (.val (.int r427)) (.val (.int r435)) (.val (.int r445.1)) (Or.inr ⟨_, rfl, rfl⟩) (Or.inr ⟨_, rfl, rfl⟩) (Or.inr ⟨_, rfl, rfl⟩) (Or.inr ⟨_, rfl, rfl⟩) (Or.inr ⟨_, rfl, rfl⟩) (Or.inr ⟨_, rfl, rfl⟩) (Or.inr ⟨_, rfl, rfl⟩) (Or.inr ⟨_, rfl, rfl⟩) (Or.inr ⟨_, rfl, rfl⟩) (Or.inr ⟨_, rfl, rfl⟩) (Or.inr ⟨_, rfl, rfl⟩) (Or.inr ⟨_, rfl, rfl⟩) _ (by simpa only [if_pos h39, if_neg h40] using hf)
                · refine go_icY (pc := 470) (pc' := 495) d47_470 (XT.ii_ne_t h39) j_470_25 ?_
                  exact law_495_ok ih (v2 + (-1 : Int32)) v3 v4 v5 v6 q r445.2 (.val (.int ((a36 &&& (15 : Int32)) % (9 : Int32)))) (.val (.int a50)) (.val (.int a58)) (.val (.int a66)) (.val (.int ((a50 &&& (7 : Int32)) % (5 : Int32)))) (.val (.int ((a58 &&& (7 : Int32)) % (5 : Int32)))) (.val (.int ((a50 &&& (15 : Int32)) % (9 : Int32)))) (.val (.int r102)) (.val (.int r110)) (.val (.int r427)) (.val (.int r435)) (.val (.int r445.1)) (Or.inr ⟨_, rfl, rfl⟩) (Or.inr ⟨_, rfl, rfl⟩) (Or.inr ⟨_, rfl, rfl⟩) (Or.inr ⟨_, rfl, rfl⟩) (Or.inr ⟨_, rfl, rfl⟩) (Or.inr ⟨_, rfl, rfl⟩) (Or.inr ⟨_, rfl, rfl⟩) (Or.inr ⟨_, rfl, rfl⟩) (Or.inr ⟨_, rfl, rfl⟩) (Or.inr ⟨_, rfl, rfl⟩) (Or.inr ⟨_, rfl, rfl⟩) (Or.inr ⟨_, rfl, rfl⟩) _ (by simpa only [if_neg h39] using hf)
              · replace hf := (if_neg h38).symm.trans hf
                refine go_icN (pc := 459) d47_459 (XT.ii_eq_f h38) ?_
                refine go_iconst (pc := 462) d47_462 ci_0 ?_
                cases hf
                exact go_zret (pc := 463) rfl d47_463 (show (0 : Int32) = nar .boolean (0 : Int32) by decide)
          · replace hf := (if_neg h10).symm.trans hf
            refine go_icY (pc := 421) (pc' := 498) d47_421 (XT.ii_ne_t h10) j_421_77 ?_
            refine go_iload (pc := 498) d47_498 rfl (go_iconst (pc := 500) d47_500 ci_3 ?_)
            by_cases h11 : ((a36 &&& (15 : Int32)) % (9 : Int32)) = (3 : Int32)
            · replace hf := (if_pos h11).symm.trans hf
              refine go_icN (pc := 501) d47_501 (XT.ii_ne_f h11) ?_
              refine go_aloadN (pc := 504) d47_504 rfl (go_iload (pc := 505) d47_505 rfl (go_iload (pc := 507) d47_507 rfl (go_iload (pc := 509) d47_509 rfl ?_)))
              obtain ⟨r511, e31, hf⟩ := Option.bind_eq_some_iff.mp hf
              refine go_virt (pc := 511) (i := 0) (as := [.int ((a50 &&& (7 : Int32)) % (5 : Int32)), .int ((a58 &&& (7 : Int32)) % (5 : Int32)), .int a66]) (rest := []) (w' := (some q, [(8, r511.2)])) lk_1_47 pd_27 rfl oid_0 rfl rfl rfl rfl rfl rfl ⟨rfl, rfl, rfl, rfl, rfl⟩ d47_511 (c_k_write ((a50 &&& (7 : Int32)) % (5 : Int32)) ((a58 &&& (7 : Int32)) % (5 : Int32)) a66 t0 _ e31) ?_
              refine go_istore (pc := 514) (L' := [.val (.ref 0), .val (.ref 1), .val (.int v2), .val (.int v3), .val (.int v4), .val (.int v5), .val (.int v6), .val (.int ((a36 &&& (15 : Int32)) % (9 : Int32))), .val (.int a50), .val (.int a58), .val (.int a66), .val (.int ((a50 &&& (7 : Int32)) % (5 : Int32))), .val (.int ((a58 &&& (7 : Int32)) % (5 : Int32))), .val (.int ((a50 &&& (15 : Int32)) % (9 : Int32))), .val (.int r102), .val (.int r110), .val (.int r511.1), x17, x18]) d47_514 (stx rfl hx16 rfl) (go_iload (pc := 516) d47_516 rfl (go_iload (pc := 518) d47_518 rfl ?_))
              by_cases h32 : r102 < 0
              · refine go_ifY (pc := 520) (pc' := 527) d47_520 (XT.i0_lt_t h32) j_520_7 ?_
                refine go_iconst (pc := 527) d47_527 ci_0 ?_
                exact law_528_ok ih v2 v3 v4 v5 v6 a66 ((a50 &&& (7 : Int32)) % (5 : Int32)) ((a58 &&& (7 : Int32)) % (5 : Int32)) r102 r511.1 (0 : Int32) r511.1 q r511.2 (.val (.int ((a36 &&& (15 : Int32)) % (9 : Int32)))) (.val (.int a50)) (.val (.int a58)) (.val (.int ((a50 &&& (15 : Int32)) % (9 : Int32)))) (.val (.int r110)) x17 x18 (Or.inr ⟨_, rfl, rfl⟩) (Or.inr ⟨_, rfl, rfl⟩) (Or.inr ⟨_, rfl, rfl⟩) (Or.inr ⟨_, rfl, rfl⟩) (Or.inr ⟨_, rfl, rfl⟩) hx17 hx18 _ (by simpa only [if_pos h32] using hf)
              · refine go_ifN (pc := 520) d47_520 (XT.i0_lt_f h32) ?_
                refine go_iconst (pc := 523) d47_523 ci_1 (go_goto (pc := 524) (pc' := 528) d47_524 j_524_4 ?_)
                exact law_528_ok ih v2 v3 v4 v5 v6 a66 ((a50 &&& (7 : Int32)) % (5 : Int32)) ((a58 &&& (7 : Int32)) % (5 : Int32)) r102 r511.1 (1 : Int32) r511.1 q r511.2 (.val (.int ((a36 &&& (15 : Int32)) % (9 : Int32)))) (.val (.int a50)) (.val (.int a58)) (.val (.int ((a50 &&& (15 : Int32)) % (9 : Int32)))) (.val (.int r110)) x17 x18 (Or.inr ⟨_, rfl, rfl⟩) (Or.inr ⟨_, rfl, rfl⟩) (Or.inr ⟨_, rfl, rfl⟩) (Or.inr ⟨_, rfl, rfl⟩) (Or.inr ⟨_, rfl, rfl⟩) hx17 hx18 _ (by simpa only [if_neg h32] using hf)
            · replace hf := (if_neg h11).symm.trans hf
              refine go_icY (pc := 501) (pc' := 567) d47_501 (XT.ii_ne_t h11) j_501_66 ?_
              refine go_iload (pc := 567) d47_567 rfl (go_iconst (pc := 569) d47_569 ci_4 ?_)
              by_cases h12 : ((a36 &&& (15 : Int32)) % (9 : Int32)) = (4 : Int32)
              · replace hf := (if_pos h12).symm.trans hf
                refine go_icN (pc := 570) d47_570 (XT.ii_ne_f h12) ?_
                refine go_aloadN (pc := 573) d47_573 rfl (go_iload (pc := 574) d47_574 rfl ?_)
                obtain ⟨r576, e29, hf⟩ := Option.bind_eq_some_iff.mp hf
                refine go_virt (pc := 576) (i := 0) (as := [.int ((a50 &&& (15 : Int32)) % (9 : Int32))]) (rest := []) (w' := (some q, [(8, r576.2)])) lk_1_51 pd_28 rfl oid_0 rfl rfl rfl rfl rfl rfl ⟨rfl, rfl, rfl, rfl, rfl⟩ d47_576 (c_k_pin ((a50 &&& (15 : Int32)) % (9 : Int32)) t0 _ e29) ?_
                refine go_istore (pc := 579) (L' := [.val (.ref 0), .val (.ref 1), .val (.int v2), .val (.int v3), .val (.int v4), .val (.int v5), .val (.int v6), .val (.int ((a36 &&& (15 : Int32)) % (9 : Int32))), .val (.int a50), .val (.int a58), .val (.int a66), .val (.int ((a50 &&& (7 : Int32)) % (5 : Int32))), .val (.int ((a58 &&& (7 : Int32)) % (5 : Int32))), .val (.int ((a50 &&& (15 : Int32)) % (9 : Int32))), .val (.int r102), .val (.int r110), .val (.int r576.1), x17, x18]) d47_579 (stx rfl hx16 rfl) (go_iload (pc := 581) d47_581 rfl (go_iload (pc := 583) d47_583 rfl (go_iconst (pc := 585) d47_585 ci_1 ?_)))
                by_cases h30 : r110 = (1 : Int32)
                · refine go_icN (pc := 586) d47_586 (XT.ii_ne_f h30) ?_
                  refine go_iconst (pc := 589) d47_589 ci_1 (go_goto (pc := 590) (pc' := 594) d47_590 j_590_4 ?_)
                  exact law_594_ok ih v2 v3 v4 v5 v6 r576.1 (1 : Int32) r576.1 q r576.2 (.val (.int ((a36 &&& (15 : Int32)) % (9 : Int32)))) (.val (.int a50)) (.val (.int a58)) (.val (.int a66)) (.val (.int ((a50 &&& (7 : Int32)) % (5 : Int32)))) (.val (.int ((a58 &&& (7 : Int32)) % (5 : Int32)))) (.val (.int ((a50 &&& (15 : Int32)) % (9 : Int32)))) (.val (.int r102)) (.val (.int r110)) x17 x18 (Or.inr ⟨_, rfl, rfl⟩) (Or.inr ⟨_, rfl, rfl⟩) (Or.inr ⟨_, rfl, rfl⟩) (Or.inr ⟨_, rfl, rfl⟩) (Or.inr ⟨_, rfl, rfl⟩) (Or.inr ⟨_, rfl, rfl⟩) (Or.inr ⟨_, rfl, rfl⟩) (Or.inr ⟨_, rfl, rfl⟩) (Or.inr ⟨_, rfl, rfl⟩) hx17 hx18 _ (by simpa only [if_pos h30] using hf)
                · refine go_icY (pc := 586) (pc' := 593) d47_586 (XT.ii_ne_t h30) j_586_7 ?_
                  refine go_iconst (pc := 593) d47_593 ci_0 ?_
                  exact law_594_ok ih v2 v3 v4 v5 v6 r576.1 (0 : Int32) r576.1 q r576.2 (.val (.int ((a36 &&& (15 : Int32)) % (9 : Int32)))) (.val (.int a50)) (.val (.int a58)) (.val (.int a66)) (.val (.int ((a50 &&& (7 : Int32)) % (5 : Int32)))) (.val (.int ((a58 &&& (7 : Int32)) % (5 : Int32)))) (.val (.int ((a50 &&& (15 : Int32)) % (9 : Int32)))) (.val (.int r102)) (.val (.int r110)) x17 x18 (Or.inr ⟨_, rfl, rfl⟩) (Or.inr ⟨_, rfl, rfl⟩) (Or.inr ⟨_, rfl, rfl⟩) (Or.inr ⟨_, rfl, rfl⟩) (Or.inr ⟨_, rfl, rfl⟩) (Or.inr ⟨_, rfl, rfl⟩) (Or.inr ⟨_, rfl, rfl⟩) (Or.inr ⟨_, rfl, rfl⟩) (Or.inr ⟨_, rfl, rfl⟩) hx17 hx18 _ (by simpa only [if_neg h30] using hf)
              · replace hf := (if_neg h12).symm.trans hf
                refine go_icY (pc := 570) (pc' := 610) d47_570 (XT.ii_ne_t h12) j_570_40 ?_
                refine go_iload (pc := 610) d47_610 rfl (go_iconst (pc := 612) d47_612 ci_5 ?_)
                by_cases h13 : ((a36 &&& (15 : Int32)) % (9 : Int32)) = (5 : Int32)
                · replace hf := (if_pos h13).symm.trans hf
                  refine go_icN (pc := 613) d47_613 (XT.ii_ne_f h13) ?_
                  refine go_aloadN (pc := 616) d47_616 rfl (go_iload (pc := 617) d47_617 rfl ?_)
                  obtain ⟨r619, e27, hf⟩ := Option.bind_eq_some_iff.mp hf
                  refine go_virt (pc := 619) (i := 0) (as := [.int ((a50 &&& (15 : Int32)) % (9 : Int32))]) (rest := []) (w' := (some q, [(8, r619.2)])) lk_1_55 pd_29 rfl oid_0 rfl rfl rfl rfl rfl rfl ⟨rfl, rfl, rfl, rfl, rfl⟩ d47_619 (c_k_unpin ((a50 &&& (15 : Int32)) % (9 : Int32)) t0 _ e27) ?_
                  refine go_istore (pc := 622) (L' := [.val (.ref 0), .val (.ref 1), .val (.int v2), .val (.int v3), .val (.int v4), .val (.int v5), .val (.int v6), .val (.int ((a36 &&& (15 : Int32)) % (9 : Int32))), .val (.int a50), .val (.int a58), .val (.int a66), .val (.int ((a50 &&& (7 : Int32)) % (5 : Int32))), .val (.int ((a58 &&& (7 : Int32)) % (5 : Int32))), .val (.int ((a50 &&& (15 : Int32)) % (9 : Int32))), .val (.int r102), .val (.int r110), .val (.int r619.1), x17, x18]) d47_622 (stx rfl hx16 rfl) (go_iload (pc := 624) d47_624 rfl (go_iload (pc := 626) d47_626 rfl (go_iconst (pc := 628) d47_628 ci_2 ?_)))
                  by_cases h28 : r110 = (2 : Int32)
                  · refine go_icN (pc := 629) d47_629 (XT.ii_ne_f h28) ?_
                    refine go_iconst (pc := 632) d47_632 ci_1 (go_goto (pc := 633) (pc' := 637) d47_633 j_633_4 ?_)
                    exact law_637_ok ih v2 v3 v4 v5 v6 r619.1 (1 : Int32) r619.1 q r619.2 (.val (.int ((a36 &&& (15 : Int32)) % (9 : Int32)))) (.val (.int a50)) (.val (.int a58)) (.val (.int a66)) (.val (.int ((a50 &&& (7 : Int32)) % (5 : Int32)))) (.val (.int ((a58 &&& (7 : Int32)) % (5 : Int32)))) (.val (.int ((a50 &&& (15 : Int32)) % (9 : Int32)))) (.val (.int r102)) (.val (.int r110)) x17 x18 (Or.inr ⟨_, rfl, rfl⟩) (Or.inr ⟨_, rfl, rfl⟩) (Or.inr ⟨_, rfl, rfl⟩) (Or.inr ⟨_, rfl, rfl⟩) (Or.inr ⟨_, rfl, rfl⟩) (Or.inr ⟨_, rfl, rfl⟩) (Or.inr ⟨_, rfl, rfl⟩) (Or.inr ⟨_, rfl, rfl⟩) (Or.inr ⟨_, rfl, rfl⟩) hx17 hx18 _ (by simpa only [if_pos h28] using hf)
                  · refine go_icY (pc := 629) (pc' := 636) d47_629 (XT.ii_ne_t h28) j_629_7 ?_
                    refine go_iconst (pc := 636) d47_636 ci_0 ?_
                    exact law_637_ok ih v2 v3 v4 v5 v6 r619.1 (0 : Int32) r619.1 q r619.2 (.val (.int ((a36 &&& (15 : Int32)) % (9 : Int32)))) (.val (.int a50)) (.val (.int a58)) (.val (.int a66)) (.val (.int ((a50 &&& (7 : Int32)) % (5 : Int32)))) (.val (.int ((a58 &&& (7 : Int32)) % (5 : Int32)))) (.val (.int ((a50 &&& (15 : Int32)) % (9 : Int32)))) (.val (.int r102)) (.val (.int r110)) x17 x18 (Or.inr ⟨_, rfl, rfl⟩) (Or.inr ⟨_, rfl, rfl⟩) (Or.inr ⟨_, rfl, rfl⟩) (Or.inr ⟨_, rfl, rfl⟩) (Or.inr ⟨_, rfl, rfl⟩) (Or.inr ⟨_, rfl, rfl⟩) (Or.inr ⟨_, rfl, rfl⟩) (Or.inr ⟨_, rfl, rfl⟩) (Or.inr ⟨_, rfl, rfl⟩) hx17 hx18 _ (by simpa only [if_neg h28] using hf)
                · replace hf := (if_neg h13).symm.trans hf
                  refine go_icY (pc := 613) (pc' := 653) d47_613 (XT.ii_ne_t h13) j_613_40 ?_
                  refine go_iload (pc := 653) d47_653 rfl (go_bipush (pc := 655) d47_655 cb_6 ?_)
                  by_cases h14 : ((a36 &&& (15 : Int32)) % (9 : Int32)) = (6 : Int32)
                  · replace hf := (if_pos h14).symm.trans hf
                    refine go_icN (pc := 657) d47_657 (XT.ii_ne_f h14) ?_
                    refine go_iload (pc := 660) d47_660 rfl (go_iconst (pc := 662) d47_662 ci_3 (go_iand (pc := 663) d47_663 (go_istore (pc := 664) (L' := [.val (.ref 0), .val (.ref 1), .val (.int v2), .val (.int v3), .val (.int v4), .val (.int v5), .val (.int v6), .val (.int ((a36 &&& (15 : Int32)) % (9 : Int32))), .val (.int a50), .val (.int a58), .val (.int a66), .val (.int ((a50 &&& (7 : Int32)) % (5 : Int32))), .val (.int ((a58 &&& (7 : Int32)) % (5 : Int32))), .val (.int ((a50 &&& (15 : Int32)) % (9 : Int32))), .val (.int r102), .val (.int r110), .val (.int (a50 &&& (3 : Int32))), x17, x18]) d47_664 (stx rfl hx16 rfl) (go_aloadN (pc := 666) d47_666 rfl (go_iload (pc := 667) d47_667 rfl ?_)))))
                    obtain ⟨r669, e21, hf⟩ := Option.bind_eq_some_iff.mp hf
                    refine go_virt (pc := 669) (i := 0) (as := [.int (a50 &&& (3 : Int32))]) (rest := []) (w' := (some q, [(8, r669.2)])) lk_1_58 pd_35 rfl oid_0 rfl rfl rfl rfl rfl rfl ⟨rfl, rfl, rfl, rfl, rfl⟩ d47_669 (c_k_allocBlock (a50 &&& (3 : Int32)) t0 _ e21) ?_
                    refine go_istore (pc := 672) (L' := [.val (.ref 0), .val (.ref 1), .val (.int v2), .val (.int v3), .val (.int v4), .val (.int v5), .val (.int v6), .val (.int ((a36 &&& (15 : Int32)) % (9 : Int32))), .val (.int a50), .val (.int a58), .val (.int a66), .val (.int ((a50 &&& (7 : Int32)) % (5 : Int32))), .val (.int ((a58 &&& (7 : Int32)) % (5 : Int32))), .val (.int ((a50 &&& (15 : Int32)) % (9 : Int32))), .val (.int r102), .val (.int r110), .val (.int (a50 &&& (3 : Int32))), .val (.int r669.1), x18]) d47_672 (stx rfl hx17 rfl) (go_iload (pc := 674) d47_674 rfl ?_)
                    by_cases h22 : r669.1 < 0
                    · replace hf := (if_pos h22).symm.trans hf
                      refine go_ifY (pc := 676) (pc' := 715) d47_676 (XT.i0_lt_t h22) j_676_39 ?_
                      refine go_iload (pc := 715) d47_715 rfl (go_bipush (pc := 717) d47_717 cb_m4 ?_)
                      by_cases h23 : r669.1 = (-4 : Int32)
                      · replace hf := (if_pos h23).symm.trans hf
                        refine go_icY (pc := 719) (pc' := 724) d47_719 (XT.ii_eq_t h23) j_719_5 ?_
                        exact law_724_ok ih v2 v3 v4 v5 v6 q r669.2 (.val (.int ((a36 &&& (15 : Int32)) % (9 : Int32)))) (.val (.int a50)) (.val (.int a58)) (.val (.int a66)) (.val (.int ((a50 &&& (7 : Int32)) % (5 : Int32)))) (.val (.int ((a58 &&& (7 : Int32)) % (5 : Int32)))) (.val (.int ((a50 &&& (15 : Int32)) % (9 : Int32)))) (.val (.int r102)) (.val (.int r110)) (.val (.int (a50 &&& (3 : Int32)))) (.val (.int r669.1)) x18 (Or.inr ⟨_, rfl, rfl⟩) (Or.inr ⟨_, rfl, rfl⟩) (Or.inr ⟨_, rfl, rfl⟩) (Or.inr ⟨_, rfl, rfl⟩) (Or.inr ⟨_, rfl, rfl⟩) (Or.inr ⟨_, rfl, rfl⟩) (Or.inr ⟨_, rfl, rfl⟩) (Or.inr ⟨_, rfl, rfl⟩) (Or.inr ⟨_, rfl, rfl⟩) (Or.inr ⟨_, rfl, rfl⟩) (Or.inr ⟨_, rfl, rfl⟩) hx18 _ hf
                      · replace hf := (if_neg h23).symm.trans hf
                        refine go_icN (pc := 719) d47_719 (XT.ii_eq_f h23) ?_
                        refine go_iconst (pc := 722) d47_722 ci_0 ?_
                        cases hf
                        exact go_zret (pc := 723) rfl d47_723 (show (0 : Int32) = nar .boolean (0 : Int32) by decide)
                    · replace hf := (if_neg h22).symm.trans hf
                      refine go_ifN (pc := 676) d47_676 (XT.i0_lt_f h22) ?_
                      refine go_iload (pc := 679) d47_679 rfl (go_iconst (pc := 681) d47_681 ci_1 (go_iload (pc := 682) d47_682 rfl (go_ishl (pc := 684) d47_684 ?_)))
                      by_cases e24 : ((1 : Int32) <<< ((a50 &&& (3 : Int32)) &&& 31)) = 0
                      · exact nomatch ((if_pos e24).symm.trans hf)
                      replace hf := (if_neg e24).symm.trans hf
                      refine go_irem (pc := 685) d47_685 e24 ?_
                      by_cases h25 : (r669.1 % ((1 : Int32) <<< ((a50 &&& (3 : Int32)) &&& 31))) = 0
                      · replace hf := (if_pos h25).symm.trans hf
                        refine go_ifN (pc := 686) d47_686 (XT.i0_ne_f h25) ?_
                        refine go_iload (pc := 689) d47_689 rfl (go_iconst (pc := 691) d47_691 ci_1 (go_iload (pc := 692) d47_692 rfl (go_ishl (pc := 694) d47_694 (go_iadd (pc := 695) d47_695 (go_bipush (pc := 696) d47_696 cb_8 ?_)))))
                        by_cases h26 : (8 : Int32) < (r669.1 + ((1 : Int32) <<< ((a50 &&& (3 : Int32)) &&& 31)))
                        · replace hf := (if_pos h26).symm.trans hf
                          refine go_icN (pc := 698) d47_698 (XT.ii_le_f h26) ?_
                          refine go_iconst (pc := 701) d47_701 ci_0 ?_
                          cases hf
                          exact go_zret (pc := 702) rfl d47_702 (show (0 : Int32) = nar .boolean (0 : Int32) by decide)
                        · replace hf := (if_neg h26).symm.trans hf
                          refine go_icY (pc := 698) (pc' := 703) d47_698 (XT.ii_le_t h26) j_698_5 ?_
                          refine go_iload (pc := 703) d47_703 rfl (go_iconst (pc := 705) d47_705 ci_1 (go_iload (pc := 706) d47_706 rfl (go_ishl (pc := 708) d47_708 (go_iadd (pc := 709) d47_709 (go_istore (pc := 710) (L' := [.val (.ref 0), .val (.ref 1), .val (.int v2), .val (.int v3), .val (.int (v4 + ((1 : Int32) <<< ((a50 &&& (3 : Int32)) &&& 31)))), .val (.int v5), .val (.int v6), .val (.int ((a36 &&& (15 : Int32)) % (9 : Int32))), .val (.int a50), .val (.int a58), .val (.int a66), .val (.int ((a50 &&& (7 : Int32)) % (5 : Int32))), .val (.int ((a58 &&& (7 : Int32)) % (5 : Int32))), .val (.int ((a50 &&& (15 : Int32)) % (9 : Int32))), .val (.int r102), .val (.int r110), .val (.int (a50 &&& (3 : Int32))), .val (.int r669.1), x18]) d47_710 rfl (go_goto (pc := 712) (pc' := 724) d47_712 j_712_12 ?_))))))
                          exact law_724_ok ih v2 v3 (v4 + ((1 : Int32) <<< ((a50 &&& (3 : Int32)) &&& 31))) v5 v6 q r669.2 (.val (.int ((a36 &&& (15 : Int32)) % (9 : Int32)))) (.val (.int a50)) (.val (.int a58)) (.val (.int a66)) (.val (.int ((a50 &&& (7 : Int32)) % (5 : Int32)))) (.val (.int ((a58 &&& (7 : Int32)) % (5 : Int32)))) (.val (.int ((a50 &&& (15 : Int32)) % (9 : Int32)))) (.val (.int r102)) (.val (.int r110)) (.val (.int (a50 &&& (3 : Int32)))) (.val (.int r669.1)) x18 (Or.inr ⟨_, rfl, rfl⟩) (Or.inr ⟨_, rfl, rfl⟩) (Or.inr ⟨_, rfl, rfl⟩) (Or.inr ⟨_, rfl, rfl⟩) (Or.inr ⟨_, rfl, rfl⟩) (Or.inr ⟨_, rfl, rfl⟩) (Or.inr ⟨_, rfl, rfl⟩) (Or.inr ⟨_, rfl, rfl⟩) (Or.inr ⟨_, rfl, rfl⟩) (Or.inr ⟨_, rfl, rfl⟩) (Or.inr ⟨_, rfl, rfl⟩) hx18 _ hf
                      · replace hf := (if_neg h25).symm.trans hf
                        refine go_ifY (pc := 686) (pc' := 701) d47_686 (XT.i0_ne_t h25) j_686_15 ?_
                        refine go_iconst (pc := 701) d47_701 ci_0 ?_
                        cases hf
                        exact go_zret (pc := 702) rfl d47_702 (show (0 : Int32) = nar .boolean (0 : Int32) by decide)
                  · replace hf := (if_neg h14).symm.trans hf
                    refine go_icY (pc := 657) (pc' := 727) d47_657 (XT.ii_ne_t h14) j_657_70 ?_
                    refine go_iload (pc := 727) d47_727 rfl (go_bipush (pc := 729) d47_729 cb_7 ?_)
                    by_cases h15 : ((a36 &&& (15 : Int32)) % (9 : Int32)) = (7 : Int32)
                    · replace hf := (if_pos h15).symm.trans hf
                      refine go_icN (pc := 731) d47_731 (XT.ii_ne_f h15) ?_
                      refine go_aloadN (pc := 734) d47_734 rfl (go_iload (pc := 735) d47_735 rfl ?_)
                      obtain ⟨r737, e19, hf⟩ := Option.bind_eq_some_iff.mp hf
                      refine go_virt (pc := 737) (i := 0) (as := [.int ((a50 &&& (15 : Int32)) % (9 : Int32))]) (rest := []) (w' := (some q, [(8, r737.2)])) lk_1_61 pd_36 rfl oid_0 rfl rfl rfl rfl rfl rfl ⟨rfl, rfl, rfl, rfl, rfl⟩ d47_737 (c_k_release ((a50 &&& (15 : Int32)) % (9 : Int32)) t0 _ e19) ?_
                      refine go_istore (pc := 740) (L' := [.val (.ref 0), .val (.ref 1), .val (.int v2), .val (.int v3), .val (.int v4), .val (.int v5), .val (.int v6), .val (.int ((a36 &&& (15 : Int32)) % (9 : Int32))), .val (.int a50), .val (.int a58), .val (.int a66), .val (.int ((a50 &&& (7 : Int32)) % (5 : Int32))), .val (.int ((a58 &&& (7 : Int32)) % (5 : Int32))), .val (.int ((a50 &&& (15 : Int32)) % (9 : Int32))), .val (.int r102), .val (.int r110), .val (.int r737.1), x17, x18]) d47_740 (stx rfl hx16 rfl) (go_iload (pc := 742) d47_742 rfl (go_iload (pc := 744) d47_744 rfl (go_iconst (pc := 746) d47_746 ci_3 ?_)))
                      by_cases h20 : r110 = (3 : Int32)
                      · refine go_icN (pc := 747) d47_747 (XT.ii_ne_f h20) ?_
                        refine go_iconst (pc := 750) d47_750 ci_1 (go_goto (pc := 751) (pc' := 755) d47_751 j_751_4 ?_)
                        exact law_755_ok ih v2 v3 v4 v5 v6 r737.1 (1 : Int32) r737.1 q r737.2 (.val (.int ((a36 &&& (15 : Int32)) % (9 : Int32)))) (.val (.int a50)) (.val (.int a58)) (.val (.int a66)) (.val (.int ((a50 &&& (7 : Int32)) % (5 : Int32)))) (.val (.int ((a58 &&& (7 : Int32)) % (5 : Int32)))) (.val (.int ((a50 &&& (15 : Int32)) % (9 : Int32)))) (.val (.int r102)) (.val (.int r110)) x17 x18 (Or.inr ⟨_, rfl, rfl⟩) (Or.inr ⟨_, rfl, rfl⟩) (Or.inr ⟨_, rfl, rfl⟩) (Or.inr ⟨_, rfl, rfl⟩) (Or.inr ⟨_, rfl, rfl⟩) (Or.inr ⟨_, rfl, rfl⟩) (Or.inr ⟨_, rfl, rfl⟩) (Or.inr ⟨_, rfl, rfl⟩) (Or.inr ⟨_, rfl, rfl⟩) hx17 hx18 _ (by simpa only [if_pos h20] using hf)
                      · refine go_icY (pc := 747) (pc' := 754) d47_747 (XT.ii_ne_t h20) j_747_7 ?_
                        refine go_iconst (pc := 754) d47_754 ci_0 ?_
                        exact law_755_ok ih v2 v3 v4 v5 v6 r737.1 (0 : Int32) r737.1 q r737.2 (.val (.int ((a36 &&& (15 : Int32)) % (9 : Int32)))) (.val (.int a50)) (.val (.int a58)) (.val (.int a66)) (.val (.int ((a50 &&& (7 : Int32)) % (5 : Int32)))) (.val (.int ((a58 &&& (7 : Int32)) % (5 : Int32)))) (.val (.int ((a50 &&& (15 : Int32)) % (9 : Int32)))) (.val (.int r102)) (.val (.int r110)) x17 x18 (Or.inr ⟨_, rfl, rfl⟩) (Or.inr ⟨_, rfl, rfl⟩) (Or.inr ⟨_, rfl, rfl⟩) (Or.inr ⟨_, rfl, rfl⟩) (Or.inr ⟨_, rfl, rfl⟩) (Or.inr ⟨_, rfl, rfl⟩) (Or.inr ⟨_, rfl, rfl⟩) (Or.inr ⟨_, rfl, rfl⟩) (Or.inr ⟨_, rfl, rfl⟩) hx17 hx18 _ (by simpa only [if_neg h20] using hf)
                    · replace hf := (if_neg h15).symm.trans hf
                      refine go_icY (pc := 731) (pc' := 771) d47_731 (XT.ii_ne_t h15) j_731_40 ?_
                      refine go_iload (pc := 771) d47_771 rfl (go_bipush (pc := 773) d47_773 cb_7 (go_iand (pc := 775) d47_775 (go_iconst (pc := 776) d47_776 ci_1 (go_isub (pc := 777) d47_777 (go_istore (pc := 778) (L' := [.val (.ref 0), .val (.ref 1), .val (.int v2), .val (.int v3), .val (.int v4), .val (.int v5), .val (.int v6), .val (.int ((a36 &&& (15 : Int32)) % (9 : Int32))), .val (.int a50), .val (.int a58), .val (.int a66), .val (.int ((a50 &&& (7 : Int32)) % (5 : Int32))), .val (.int ((a58 &&& (7 : Int32)) % (5 : Int32))), .val (.int ((a50 &&& (15 : Int32)) % (9 : Int32))), .val (.int r102), .val (.int r110), .val (.int ((a50 &&& (7 : Int32)) - (1 : Int32))), x17, x18]) d47_778 (stx rfl hx16 rfl) (go_aloadN (pc := 780) d47_780 rfl (go_iload (pc := 781) d47_781 rfl ?_)))))))
                      obtain ⟨r783, e16, hf⟩ := Option.bind_eq_some_iff.mp hf
                      refine go_virt (pc := 783) (i := 0) (as := [.int ((a50 &&& (7 : Int32)) - (1 : Int32))]) (rest := []) (w' := (some q, [(8, r783.2)])) lk_1_64 pd_44 rfl oid_0 rfl rfl rfl rfl rfl rfl ⟨rfl, rfl, rfl, rfl, rfl⟩ d47_783 (c_k_compact ((a50 &&& (7 : Int32)) - (1 : Int32)) t0 _ e16) ?_
                      refine go_istore (pc := 786) (L' := [.val (.ref 0), .val (.ref 1), .val (.int v2), .val (.int v3), .val (.int v4), .val (.int v5), .val (.int v6), .val (.int ((a36 &&& (15 : Int32)) % (9 : Int32))), .val (.int a50), .val (.int a58), .val (.int a66), .val (.int ((a50 &&& (7 : Int32)) % (5 : Int32))), .val (.int ((a58 &&& (7 : Int32)) % (5 : Int32))), .val (.int ((a50 &&& (15 : Int32)) % (9 : Int32))), .val (.int r102), .val (.int r110), .val (.int ((a50 &&& (7 : Int32)) - (1 : Int32))), .val (.int r783.1), x18]) d47_786 (stx rfl hx17 rfl) (go_iload (pc := 788) d47_788 rfl ?_)
                      by_cases h17 : r783.1 < 0
                      · replace hf := (if_pos h17).symm.trans hf
                        refine go_ifY (pc := 790) (pc' := 809) d47_790 (XT.i0_lt_t h17) j_790_19 ?_
                        refine go_iconst (pc := 809) d47_809 ci_0 ?_
                        cases hf
                        exact go_zret (pc := 810) rfl d47_810 (show (0 : Int32) = nar .boolean (0 : Int32) by decide)
                      · replace hf := (if_neg h17).symm.trans hf
                        refine go_ifN (pc := 790) d47_790 (XT.i0_lt_f h17) ?_
                        refine go_iload (pc := 793) d47_793 rfl (go_iload (pc := 795) d47_795 rfl ?_)
                        by_cases h18 : ((a50 &&& (7 : Int32)) - (1 : Int32)) < 0
                        · refine go_ifN (pc := 797) d47_797 (XT.i0_ge_f h18) ?_
                          refine go_iconst (pc := 800) d47_800 ci_0 (go_goto (pc := 801) (pc' := 806) d47_801 j_801_5 ?_)
                          exact law_806_ok ih v2 v3 v4 v5 v6 (0 : Int32) r783.1 q r783.2 (.val (.int ((a36 &&& (15 : Int32)) % (9 : Int32)))) (.val (.int a50)) (.val (.int a58)) (.val (.int a66)) (.val (.int ((a50 &&& (7 : Int32)) % (5 : Int32)))) (.val (.int ((a58 &&& (7 : Int32)) % (5 : Int32)))) (.val (.int ((a50 &&& (15 : Int32)) % (9 : Int32)))) (.val (.int r102)) (.val (.int r110)) (.val (.int ((a50 &&& (7 : Int32)) - (1 : Int32)))) (.val (.int r783.1)) x18 (Or.inr ⟨_, rfl, rfl⟩) (Or.inr ⟨_, rfl, rfl⟩) (Or.inr ⟨_, rfl, rfl⟩) (Or.inr ⟨_, rfl, rfl⟩) (Or.inr ⟨_, rfl, rfl⟩) (Or.inr ⟨_, rfl, rfl⟩) (Or.inr ⟨_, rfl, rfl⟩) (Or.inr ⟨_, rfl, rfl⟩) (Or.inr ⟨_, rfl, rfl⟩) (Or.inr ⟨_, rfl, rfl⟩) (Or.inr ⟨_, rfl, rfl⟩) hx18 _ (by simpa only [if_pos h18] using hf)
                        · refine go_ifY (pc := 797) (pc' := 804) d47_797 (XT.i0_ge_t h18) j_797_7 ?_
                          refine go_iload (pc := 804) d47_804 rfl ?_
                          exact law_806_ok ih v2 v3 v4 v5 v6 ((a50 &&& (7 : Int32)) - (1 : Int32)) r783.1 q r783.2 (.val (.int ((a36 &&& (15 : Int32)) % (9 : Int32)))) (.val (.int a50)) (.val (.int a58)) (.val (.int a66)) (.val (.int ((a50 &&& (7 : Int32)) % (5 : Int32)))) (.val (.int ((a58 &&& (7 : Int32)) % (5 : Int32)))) (.val (.int ((a50 &&& (15 : Int32)) % (9 : Int32)))) (.val (.int r102)) (.val (.int r110)) (.val (.int ((a50 &&& (7 : Int32)) - (1 : Int32)))) (.val (.int r783.1)) x18 (Or.inr ⟨_, rfl, rfl⟩) (Or.inr ⟨_, rfl, rfl⟩) (Or.inr ⟨_, rfl, rfl⟩) (Or.inr ⟨_, rfl, rfl⟩) (Or.inr ⟨_, rfl, rfl⟩) (Or.inr ⟨_, rfl, rfl⟩) (Or.inr ⟨_, rfl, rfl⟩) (Or.inr ⟨_, rfl, rfl⟩) (Or.inr ⟨_, rfl, rfl⟩) (Or.inr ⟨_, rfl, rfl⟩) (Or.inr ⟨_, rfl, rfl⟩) hx18 _ (by simpa only [if_neg h18] using hf)
    · replace hf := (if_neg h1).symm.trans hf
      refine go_icY (pc := 30) (pc' := 832) d47_30 (XT.ii_ge_t h1) j_30_802 ?_
      refine go_iconst (pc := 832) d47_832 ci_1 ?_
      cases hf
      exact go_zret (pc := 833) rfl d47_833 (show (1 : Int32) = nar .boolean (1 : Int32) by decide)
set_option maxRecDepth 65536 in
set_option maxHeartbeats 4000000 in
theorem law_ok  : ∀  (q : List Int32)  (o : Int32 × S), law q = some o → Go PP m47 0 [.val (.ref 0), .unset, .unset, .unset, .unset, .unset, .unset, .unset, .unset, .unset, .unset, .unset, .unset, .unset, .unset, .unset, .unset, .unset, .unset] [] (some q, []) (some (.int o.1), (some q, [(8, o.2)])) := by
  intro q o hf
  unfold law at hf
  refine go_new (pc := 0) (n := 0) (w' := (some q, [(0, s0)])) (List.mem_of_getElem? (i := 0) rfl) rfl rfl rfl rfl rfl rfl rfl d47_0 oid_0 ?_
  refine go_dupR (pc := 3) d47_3 (go_bipush (pc := 4) d47_4 cb_8 (go_iconst (pc := 6) d47_6 ci_4 ?_))
  obtain ⟨r7, e2, hf⟩ := Option.bind_eq_some_iff.mp hf
  refine go_init (pc := 7) (i := 0) (as := [.int (8 : Int32), .int (4 : Int32)]) (rest := [.ref 1]) (w' := (some q, [(8, r7)])) lk_1_26 pd_3 rfl oid_0 rfl rfl rfl rfl rfl rfl rfl rfl rfl ⟨rfl, rfl, rfl⟩ ⟨rfl, rfl⟩ d47_7 (c_k_init (8 : Int32) (4 : Int32) _ e2) ?_
  refine go_astoreN (pc := 10) (L' := [.val (.ref 0), .val (.ref 1), .unset, .unset, .unset, .unset, .unset, .unset, .unset, .unset, .unset, .unset, .unset, .unset, .unset, .unset, .unset, .unset, .unset]) d47_10 rfl (go_iconst (pc := 11) d47_11 ci_0 (go_istoreN (pc := 12) (L' := [.val (.ref 0), .val (.ref 1), .val (.int (0 : Int32)), .unset, .unset, .unset, .unset, .unset, .unset, .unset, .unset, .unset, .unset, .unset, .unset, .unset, .unset, .unset, .unset]) d47_12 rfl (go_iconst (pc := 13) d47_13 ci_0 (go_istoreN (pc := 14) (L' := [.val (.ref 0), .val (.ref 1), .val (.int (0 : Int32)), .val (.int (0 : Int32)), .unset, .unset, .unset, .unset, .unset, .unset, .unset, .unset, .unset, .unset, .unset, .unset, .unset, .unset, .unset]) d47_14 rfl (go_iconst (pc := 15) d47_15 ci_0 (go_istore (pc := 16) (L' := [.val (.ref 0), .val (.ref 1), .val (.int (0 : Int32)), .val (.int (0 : Int32)), .val (.int (0 : Int32)), .unset, .unset, .unset, .unset, .unset, .unset, .unset, .unset, .unset, .unset, .unset, .unset, .unset, .unset]) d47_16 rfl (go_iconst (pc := 18) d47_18 ci_0 ?_)))))))
  refine go_istore (pc := 19) (L' := [.val (.ref 0), .val (.ref 1), .val (.int (0 : Int32)), .val (.int (0 : Int32)), .val (.int (0 : Int32)), .val (.int (0 : Int32)), .unset, .unset, .unset, .unset, .unset, .unset, .unset, .unset, .unset, .unset, .unset, .unset, .unset]) d47_19 rfl (go_iconst (pc := 21) d47_21 ci_0 (go_istore (pc := 22) (L' := [.val (.ref 0), .val (.ref 1), .val (.int (0 : Int32)), .val (.int (0 : Int32)), .val (.int (0 : Int32)), .val (.int (0 : Int32)), .val (.int (0 : Int32)), .unset, .unset, .unset, .unset, .unset, .unset, .unset, .unset, .unset, .unset, .unset, .unset]) d47_22 rfl ?_))
  exact law_24_ok BIG (0 : Int32) (0 : Int32) (0 : Int32) (0 : Int32) (0 : Int32) q r7 .unset .unset .unset .unset .unset .unset .unset .unset .unset .unset .unset .unset (Or.inl rfl) (Or.inl rfl) (Or.inl rfl) (Or.inl rfl) (Or.inl rfl) (Or.inl rfl) (Or.inl rfl) (Or.inl rfl) (Or.inl rfl) (Or.inl rfl) (Or.inl rfl) (Or.inl rfl) _ hf
def lev (F : Int64) : Nat → Int64
  | 0 => F
  | k + 1 => (lev F k &&& (XT.ushrL (lev F k) ((1 : Int32) <<< ((Int32.ofNat (k + 1) - (1 : Int32)) &&& 31)))) &&& (k_alignMask (Int32.ofNat (k + 1)))
theorem own_reset {N P : Nat} (s : S) (hN : gI s 0 = Int32.ofNat N) (hP : gI s 1 = Int32.ofNat P) (l : ∀ f, f < 7 → (gA s f).length = 64) (l7 : (gB s 7).length = 7) : ∃ t, k_resetAll s = some t ∧ gI t 0 = Int32.ofNat N ∧ gI t 1 = Int32.ofNat P ∧ gL t 2 = k_lowMask (Int32.ofNat N) ∧ gL t 3 = 0 ∧ gL t 4 = 0 ∧ gL t 5 = 0 ∧ gI t 6 = 1 ∧ gA t 0 = rep 64 0 ∧ gA t 1 = rep 64 0 ∧ gA t 2 = rep 64 0 ∧ gA t 3 = rep 64 (-1) ∧ gA t 4 = rep 64 (-1) ∧ gA t 5 = rep 64 (-1) ∧ gA t 6 = rep 64 (-1) ∧ (gB t 7).length = 7 := by
  have nb : nar .byte 0 = 0 := by decide
  obtain ⟨u, e, F, lu, a0, a1, a2, a3, a4, a5, a6⟩ := run_for k_resetAll_2 k_resetAll_63 64 (fun k u => Fx [] [] [0, 1, 2, 3, 4, 5, 6] [] s u ∧ (∀ f, f < 7 → (gA u f).length = 64) ∧ Upto (gA u 0) k 0 ∧ Upto (gA u 1) k 0 ∧ Upto (gA u 2) k 0 ∧ Upto (gA u 3) k (-1) ∧ Upto (gA u 4) k (-1) ∧ Upto (gA u 5) k (-1) ∧ Upto (gA u 6) k (-1)) (by
    intro n k u hk ⟨F, lu, a0, a1, a2, a3, a4, a5, a6⟩
    have h0 := lu 0 (by omega)
    have h1 := lu 1 (by omega)
    have h2 := lu 2 (by omega)
    have h3 := lu 3 (by omega)
    have h4 := lu 4 (by omega)
    have h5 := lu 5 (by omega)
    have h6 := lu 6 (by omega)
    refine ⟨(sA (sA (sA (sA (sA (sA (sA u 0 ((gA u 0).set k 0)) 1 ((gA u 1).set k 0)) 2 ((gA u 2).set k 0)) 3 ((gA u 3).set k (-1))) 4 ((gA u 4).set k (-1))) 5 ((gA u 5).set k (-1))) 6 ((gA u 6).set k (-1))), ?_, ?_⟩
    · rw [k_resetAll_2, if_pos ((lt_lit (by omega)).mpr hk), nb, st_ofNat _ _ (by omega) (by omega), Option.bind_some, st_ofNat _ _ (by omega) (by omega), Option.bind_some, st_ofNat _ _ (by omega) (by omega), Option.bind_some, st_ofNat _ _ (by omega) (by omega), Option.bind_some, st_ofNat _ _ (by omega) (by omega), Option.bind_some, st_ofNat _ _ (by omega) (by omega), Option.bind_some, st_ofNat _ _ (by omega) (by omega), Option.bind_some, ofNat_succ]
    · refine ⟨((((((F.sA (by simp)).sA (by simp)).sA (by simp)).sA (by simp)).sA (by simp)).sA (by simp)).sA (by simp), fun f hf => ?_, ?_, ?_, ?_, ?_, ?_, ?_, ?_⟩
      · have := lu f hf
        simp only [gA_sA]
        split
        · simp [h6]
        split
        · simp [h5]
        split
        · simp [h4]
        split
        · simp [h3]
        split
        · simp [h2]
        split
        · simp [h1]
        split
        · simp [h0]
        · exact this
      · simpa [gA_sA] using a0.set (by omega)
      · simpa [gA_sA] using a1.set (by omega)
      · simpa [gA_sA] using a2.set (by omega)
      · simpa [gA_sA] using a3.set (by omega)
      · simpa [gA_sA] using a4.set (by omega)
      · simpa [gA_sA] using a5.set (by omega)
      · simpa [gA_sA] using a6.set (by omega)) (by
    intro n u _
    rw [k_resetAll_2, if_neg (fun hh => absurd (show 64 < 64 from (lt_lit (by omega)).mp hh) (by omega))]) BIG s (by unfold BIG; omega) ⟨Fx.refl .., l, Upto.zero _ _, Upto.zero _ _, Upto.zero _ _, Upto.zero _ _, Upto.zero _ _, Upto.zero _ _, Upto.zero _ _⟩
  have i0 : gI u 0 = Int32.ofNat N := by rw [F.1 0 (by simp), hN]
  refine ⟨_, e, ?_, ?_, ?_, ?_, ?_, ?_, ?_, ?_, ?_, ?_, ?_, ?_, ?_, ?_, ?_⟩
  all_goals simp [gI_sI, gI_sL, gL_sI, gL_sL, gA_sI, gA_sL, gB_sI, gB_sL, i0]
  · rw [F.1 1 (by simp), hP]
  · exact a0.all (lu 0 (by omega))
  · exact a1.all (lu 1 (by omega))
  · exact a2.all (lu 2 (by omega))
  · exact a3.all (lu 3 (by omega))
  · exact a4.all (lu 4 (by omega))
  · exact a5.all (lu 5 (by omega))
  · exact a6.all (lu 6 (by omega))
  · rw [F.2.2.2 7 (by simp), l7]
theorem own_runs (s : S) (h6 : gI s 6 = 1) (l7 : (gB s 7).length = 7) : ∃ t, k_refreshRuns s = some t ∧ Fx [6] [] [] [7] s t ∧ (∀ k, k < 7 → (gB t 7)[k]? = some (lev (gL s 2) k)) ∧ gI t 6 = 0 ∧ (gB t 7).length = 7 := by
  obtain ⟨c, u, e, F, lu, gu, hc⟩ : ∃ (c : Int64) (u : S), k_refreshRuns_22 BIG (gL s 2) 1 (sB s 7 ((gB s 7).set 0 (gL s 2))) = k_refreshRuns_65 u ∧ Fx [6] [] [] [7] s u ∧ (gB u 7).length = 7 ∧ (∀ j, j ≤ 6 → (gB u 7)[j]? = some (lev (gL s 2) j)) ∧ c = lev (gL s 2) 6 := by
    obtain ⟨⟨c, v, u⟩, e, k, hk, i⟩ := run_loop (fun n (a : Int64 × Int32 × S) => k_refreshRuns_22 n a.1 a.2.1 a.2.2) (fun a => k_refreshRuns_65 a.2.2) (fun m a => ∃ k, k + m = 6 ∧ a.2.1 = Int32.ofNat (k + 1) ∧ a.1 = lev (gL s 2) k ∧ Fx [6] [] [] [7] s a.2.2 ∧ (gB a.2.2 7).length = 7 ∧ ∀ j, j ≤ k → (gB a.2.2 7)[j]? = some (lev (gL s 2) j))
      (by
        rintro n m ⟨c, v, u⟩ ⟨k, h1, h2, h3, F, lu, g⟩
        dsimp only at *
        refine ⟨(lev (gL s 2) (k + 1), Int32.ofNat (k + 2), sB u 7 ((gB u 7).set (k + 1) (lev (gL s 2) (k + 1)))), ?_, k + 1, by omega, rfl, rfl, F.sB (by simp), ?_, ?_⟩
        · show k_refreshRuns_22 (n + 1) _ _ _ = k_refreshRuns_22 n _ _ _
          rw [h2, h3, k_refreshRuns_22, if_neg (fun hh => by rw [show (6 : Int32) = Int32.ofNat 6 from rfl, ofNat_lt (by omega) (by omega)] at hh; omega)]
          rw [show ((lev (gL s 2) k &&& (XT.ushrL (lev (gL s 2) k) ((1 : Int32) <<< ((Int32.ofNat (k + 1) - (1 : Int32)) &&& 31)))) &&& (k_alignMask (Int32.ofNat (k + 1)))) = lev (gL s 2) (k + 1) from rfl, st_ofNat _ _ (by omega) (by omega), Option.bind_some, ofNat_succ]
        · simp [gB_sB, lu]
        · intro j hj
          rw [gB_sB, if_pos rfl]
          by_cases q : j = k + 1
          · subst q; rw [List.getElem?_set_self (by omega)]
          · rw [List.getElem?_set_ne (by omega)]; exact g j (by omega))
      (by
        rintro n ⟨c, v, u⟩ ⟨k, h1, h2, _⟩
        dsimp only at *
        show k_refreshRuns_22 (n + 1) _ _ _ = _
        rw [h2, k_refreshRuns_22, if_pos (by rw [show (6 : Int32) = Int32.ofNat 6 from rfl, ofNat_lt (by omega) (by omega)]; omega)]) 6 BIG (gL s 2, 1, sB s 7 ((gB s 7).set 0 (gL s 2))) (by unfold BIG; omega) ⟨0, by omega, rfl, rfl, (Fx.refl ..).sB (by simp), by simp [gB_sB, l7], fun j hj => by
          have : j = 0 := by omega
          subst this
          rw [gB_sB, if_pos rfl, List.getElem?_set_self (by omega)]; rfl⟩
    obtain ⟨_, h2, F, lu, g⟩ := i
    dsimp only at *
    have : k = 6 := by omega
    subst this
    exact ⟨c, u, e, F, lu, g, h2⟩
  refine ⟨sI u 6 0, ?_, F.sI (by simp), ?_, by rw [gI_sI, if_pos rfl], by rw [gB_sI]; exact lu⟩
  · unfold k_refreshRuns
    rw [h6, if_neg (by decide), show (0 : Int32) = Int32.ofNat 0 from rfl, st_ofNat _ _ (by omega) (by omega), Option.bind_some]
    exact e
  · intro k hk
    rw [gB_sI]; exact gu k (by omega)
/-! ### sets of frames as words below 256 -/
def clr (m i : Nat) : Nat := if m.testBit i then m - 2 ^ i else m
def put (m i : Nat) : Nat := clr m i + 2 ^ i
theorem w_clr : ∀ m : Fin 256, ∀ i : Fin 8, Int64.ofNat m.val &&& (k_bitOf (Int32.ofNat i.val) ^^^ (-1)) = Int64.ofNat (clr m.val i.val) ∧ (Int64.ofNat m.val &&& (k_bitOf (Int32.ofNat i.val) ^^^ (-1))) ||| k_bitOf (Int32.ofNat i.val) = Int64.ofNat (put m.val i.val) := by decide +kernel
theorem n_clr : ∀ m : Fin 256, ∀ i : Fin 8, clr m.val i.val < 256 ∧ put m.val i.val < 256 ∧ ∀ j : Fin 8, (clr m.val i.val).testBit j.val = (m.val.testBit j.val && decide (j ≠ i)) ∧ (put m.val i.val).testBit j.val = (m.val.testBit j.val || decide (j = i)) := by decide +kernel
theorem w_zero : ∀ m : Fin 256, (Int64.ofNat m.val = 0 ↔ m.val = 0) := by decide +kernel
def low (m : Nat) : Nat := if m.testBit 0 then 0 else if m.testBit 1 then 1 else if m.testBit 2 then 2 else if m.testBit 3 then 3 else if m.testBit 4 then 4 else if m.testBit 5 then 5 else if m.testBit 6 then 6 else 7
def high (m : Nat) : Nat := if m.testBit 7 then 7 else if m.testBit 6 then 6 else if m.testBit 5 then 5 else if m.testBit 4 then 4 else if m.testBit 3 then 3 else if m.testBit 2 then 2 else if m.testBit 1 then 1 else 0
theorem w_low : ∀ m : Fin 256, m.val ≠ 0 → k_lowestBit (Int64.ofNat m.val) = Int32.ofNat (low m.val) ∧ m.val.testBit (low m.val) = true ∧ low m.val < 8 ∧ ∀ j : Fin 8, j.val < low m.val → m.val.testBit j.val = false := by decide +kernel
theorem w_high : ∀ m : Fin 256, m.val ≠ 0 → k_highestBit (Int64.ofNat m.val) = Int32.ofNat (high m.val) ∧ m.val.testBit (high m.val) = true ∧ high m.val < 8 ∧ ∀ j : Fin 8, high m.val < j.val → m.val.testBit j.val = false := by decide +kernel
theorem w_cnt : ∀ m : Fin 256, k_bitCount (Int64.ofNat m.val) = Int32.ofNat ((List.range 8).countP fun i => m.val.testBit i) := by decide +kernel
def rng (lo hi : Nat) : Nat := if hi ≤ lo then 0 else 2 ^ hi - 2 ^ lo
theorem w_rng : ∀ lo hi : Fin 9, k_rangeMask (Int32.ofNat lo.val) (Int32.ofNat hi.val) = Int64.ofNat (rng lo.val hi.val) ∧ rng lo.val hi.val < 256 ∧ ∀ j : Fin 8, (rng lo.val hi.val).testBit j.val = decide (lo.val ≤ j.val ∧ j.val < hi.val) := by decide +kernel
/-! ### the lists of pages -/
def hdI : List Nat → Int32
  | [] => -1
  | x :: _ => Int32.ofNat x
def setHd (pv : List Int32) (v : Int32) : List Nat → List Int32
  | [] => pv
  | y :: _ => pv.set y v
def lastI (p : Int32) : Option Nat → Int32
  | none => p
  | some y => Int32.ofNat y
def setLast (nx : List Int32) (n : Int32) : Option Nat → List Int32
  | none => nx
  | some y => nx.set y n
def hdOr (n h : Int32) : List Nat → Int32
  | [] => n
  | _ :: _ => h
/-- the list l hangs at h, the page before it being p -/
def Ch (nx pv : List Int32) : Int32 → Int32 → List Nat → Prop
  | _, h, [] => h = -1
  | p, h, x :: r => h = Int32.ofNat x ∧ x < 64 ∧ pv[x]? = some p ∧ ∃ n, nx[x]? = some n ∧ Ch nx pv (Int32.ofNat x) n r
theorem Ch.congr {nx pv nx' pv' : List Int32} : ∀ {p h : Int32} {l : List Nat}, Ch nx pv p h l → (∀ x ∈ l, nx'[x]? = nx[x]? ∧ pv'[x]? = pv[x]?) → Ch nx' pv' p h l
  | _, _, [], c, _ => c
  | p, h, x :: r, ⟨c1, c2, c3, n, c4, c5⟩, g => ⟨c1, c2, by rw [(g x (List.mem_cons_self ..)).2]; exact c3, n, by rw [(g x (List.mem_cons_self ..)).1]; exact c4, c5.congr fun y hy => g y (List.mem_cons_of_mem _ hy)⟩
theorem Ch.lt {nx pv : List Int32} : ∀ {p h : Int32} {l : List Nat}, Ch nx pv p h l → ∀ x ∈ l, x < 64
  | _, _, [], _, _, hx => nomatch hx
  | p, h, y :: r, ⟨_, c2, _, n, _, c5⟩, x, hx => by
    rcases List.mem_cons.mp hx with e | e
    · rw [e]; exact c2
    · exact c5.lt x e
/-- the page before the list may be another one -/
theorem Ch.repl {nx pv pv' : List Int32} {p p' h : Int32} {x : Nat} {r : List Nat} (c : Ch nx pv p h (x :: r)) (g : ∀ y ∈ r, pv'[y]? = pv[y]?) (gx : pv'[x]? = some p') : Ch nx pv' p' h (x :: r) := by
  obtain ⟨c1, c2, c3, n, c4, c5⟩ := c
  exact ⟨c1, c2, gx, n, c4, c5.congr fun y hy => ⟨rfl, g y hy⟩⟩
theorem Ch.head {nx pv : List Int32} {p h : Int32} {l : List Nat} (c : Ch nx pv p h l) : h = hdI l := by
  cases l with
  | nil => exact c
  | cons x r => exact c.1
/-- putting a page before a list -/
theorem Ch.link {nx pv : List Int32} {h : Int32} {l : List Nat} {x : Nat} (c : Ch nx pv (-1) h l) (hx : x < 64) (hxl : x ∉ l) (nd : l.Nodup) (ln : nx.length = 64) (lp : pv.length = 64) :
    Ch (nx.set x h) (setHd (pv.set x (-1)) (Int32.ofNat x) l) (-1) (Int32.ofNat x) (x :: l) := by
  cases l with
  | nil => exact ⟨rfl, hx, by show (pv.set x (-1))[x]? = _; rw [List.getElem?_set_self (by omega)], h, by rw [List.getElem?_set_self (by omega)], c⟩
  | cons y r =>
    have hyx : y ≠ x := fun e => hxl (by rw [e]; exact List.mem_cons_self ..)
    have hy := c.2.1
    have hyr : y ∉ r := (List.nodup_cons.mp nd).1
    refine ⟨rfl, hx, ?_, h, ?_, ?_⟩
    · show ((pv.set x (-1)).set y (Int32.ofNat x))[x]? = _
      rw [List.getElem?_set_ne hyx, List.getElem?_set_self (by omega)]
    · rw [List.getElem?_set_self (by omega)]
    · show Ch (nx.set x h) ((pv.set x (-1)).set y (Int32.ofNat x)) _ _ _
      have c' : Ch (nx.set x h) pv (-1) h (y :: r) := c.congr fun z hz => ⟨by rw [List.getElem?_set_ne (fun e => hxl (by rw [e]; exact hz))], rfl⟩
      refine c'.repl (fun z hz => ?_) ?_
      · rw [List.getElem?_set_ne (fun e => hyr (by rw [e]; exact hz)), List.getElem?_set_ne (fun e => hxl (by rw [e]; exact List.mem_cons_of_mem _ hz))]
      · rw [List.getElem?_set_self (by simp; omega)]
/-- taking a page out of a list: what it says of its neighbours, and the list behind it -/
theorem Ch.find {nx pv : List Int32} : ∀ {p h : Int32} {l1 l2 : List Nat} {x : Nat}, Ch nx pv p h (l1 ++ x :: l2) → ∃ n, nx[x]? = some n ∧ pv[x]? = some (lastI p l1.getLast?) ∧ Ch nx pv (Int32.ofNat x) n l2
  | p, h, [], l2, x, ⟨_, _, c3, n, c4, c5⟩ => ⟨n, c4, c3, c5⟩
  | p, h, y :: r, l2, x, ⟨_, _, _, n, _, c5⟩ => by
    obtain ⟨m, g1, g2, g3⟩ := c5.find
    refine ⟨m, g1, ?_, g3⟩
    rw [g2]
    cases r with
    | nil => rfl
    | cons z r =>
      rw [List.getLast?_cons_cons]
      cases e : (z :: r).getLast? with
      | none => simp at e
      | some w => rfl
theorem Ch.unlink {nx pv : List Int32} (ln : nx.length = 64) (lp : pv.length = 64) : ∀ {p h : Int32} {l1 l2 : List Nat} {x : Nat} {n : Int32}, Ch nx pv p h (l1 ++ x :: l2) → (l1 ++ x :: l2).Nodup → nx[x]? = some n →
    Ch (setLast nx n l1.getLast?) (setHd pv (lastI p l1.getLast?) l2) p (hdOr n h l1) (l1 ++ l2)
  | p, h, [], l2, x, n, c, nd, hn => by
    obtain ⟨_, _, _, m, c4, c5⟩ := c
    rw [hn] at c4
    cases c4
    cases l2 with
    | nil => exact c5
    | cons z r =>
      have nd2 : (z :: r).Nodup := (List.nodup_cons.mp nd).2
      have hz := c5.2.1
      refine c5.repl (fun y hy => ?_) ?_
      · show (pv.set z _)[y]? = _
        rw [List.getElem?_set_ne (fun e => (List.nodup_cons.mp nd2).1 (by rw [e]; exact hy))]
      · show (pv.set z _)[z]? = _
        rw [List.getElem?_set_self (by omega)]; rfl
  | p, h, y :: r, l2, x, n, c, nd, hn => by
    obtain ⟨c1, c2, c3, m, c4, c5⟩ := c
    have nd' : (r ++ x :: l2).Nodup := (List.nodup_cons.mp nd).2
    have hy' : y ∉ r ++ x :: l2 := (List.nodup_cons.mp nd).1
    have IH := Ch.unlink ln lp c5 nd' hn
    cases r with
    | nil =>
      dsimp only [List.nil_append] at IH ⊢
      refine ⟨c1, c2, ?_, n, ?_, ?_⟩
      · cases l2 with
        | nil => exact c3
        | cons z q =>
          show (pv.set z _)[y]? = _
          rw [List.getElem?_set_ne (fun e => hy' (by rw [← e]; simp))]; exact c3
      · show (nx.set y n)[y]? = _
        rw [List.getElem?_set_self (by omega)]
      · show Ch (nx.set y n) _ _ _ _
        refine IH.congr fun w hw => ⟨?_, rfl⟩
        show (nx.set y n)[w]? = nx[w]?
        rw [List.getElem?_set_ne (fun e => hy' (by rw [e]; simp [hw]))]
    | cons z q =>
      have e1 : (y :: z :: q).getLast? = (z :: q).getLast? := by simp [List.getLast?_cons_cons]
      rw [e1]
      have hlast : ∃ w, (z :: q).getLast? = some w ∧ w ∈ z :: q := by
        cases e : (z :: q).getLast? with
        | none => simp at e
        | some w => exact ⟨w, rfl, List.mem_of_getLast? e⟩
      obtain ⟨w, ew, hw⟩ := hlast
      rw [ew] at IH ⊢
      simp only [setLast, lastI, hdOr] at IH ⊢
      have hyw : w ≠ y := fun e => hy' (by rw [← e]; exact List.mem_append_left _ hw)
      refine ⟨c1, c2, ?_, m, ?_, IH⟩
      · cases l2 with
        | nil => exact c3
        | cons z' q' =>
          show (pv.set z' _)[y]? = _
          rw [List.getElem?_set_ne (fun e => hy' (by rw [← e]; simp))]; exact c3
      · rw [List.getElem?_set_ne hyw]; exact c4
/-! ### the parts of a compactor with 8 frames and 4 pages a process -/
def Geo (s : S) : Prop := gI s 0 = 8 ∧ gI s 1 = 4 ∧ (gA s 0).length = 64 ∧ (gA s 1).length = 64 ∧ (gA s 2).length = 64 ∧ (gA s 3).length = 64 ∧ (gA s 4).length = 64 ∧ (gA s 5).length = 64 ∧ (gA s 6).length = 64 ∧ (gB s 7).length = 7 ∧ (gI s 6 = 0 ∨ gI s 6 = 1)
def RS (s : S) (st : Nat → Nat) : Prop := (∀ f, f < 8 → st f ≤ 3 ∧ (gA s 0)[f]? = some (Int32.ofNat (st f))) ∧ (∃ m, m < 256 ∧ gL s 2 = Int64.ofNat m ∧ ∀ f, f < 8 → m.testBit f = decide (st f = 0)) ∧ (∃ m, m < 256 ∧ gL s 3 = Int64.ofNat m ∧ ∀ f, f < 8 → m.testBit f = decide (st f = 1)) ∧ (gI s 6 = 0 → ∀ k, k < 7 → (gB s 7)[k]? = some (lev (gL s 2) k))
theorem inr_yes {s : S} (h : gI s 0 = 8) {f : Nat} (hf : f < 8) : k_frameInRange (Int32.ofNat f) s = 1 := by
  unfold k_frameInRange
  rw [if_neg (ofNat_nonneg (by omega)), h, if_pos ((lt_lit (by omega)).mpr hf)]
theorem enter_ok {s : S} {st : Nat → Nat} (G : Geo s) (R : RS s st) {f x : Nat} (hf : f < 8) (hx : x ≤ 3) : ∃ s', k_enterState (Int32.ofNat f) (Int32.ofNat x) s = some s' ∧ Fx [6] [2, 3, 4, 5] [0] [] s s' ∧ Geo s' ∧ RS s' (aupd st f x) := by
  obtain ⟨g0, g1, l0, l1, l2, l3, l4, l5, l6, l7, g6⟩ := id G
  obtain ⟨r1, ⟨m2, h2, e2, b2⟩, ⟨m3, h3, e3, b3⟩, r4⟩ := id R
  have w2 := w_clr ⟨m2, h2⟩ ⟨f, hf⟩
  have w3 := w_clr ⟨m3, h3⟩ ⟨f, hf⟩
  have n2 := n_clr ⟨m2, h2⟩ ⟨f, hf⟩
  have n3 := n_clr ⟨m3, h3⟩ ⟨f, hf⟩
  dsimp only at w2 w3 n2 n3
  have nb : ∀ x : Fin 4, nar .byte (Int32.ofNat x.val).toInt8.toInt32 = Int32.ofNat x.val := by decide
  have nbx := nb ⟨x, by omega⟩
  dsimp only at nbx
  have F0 : Fx [6] [2, 3, 4, 5] [0] [] s s := Fx.refl ..
  have w2' := w2
  have w3' := w3
  simp at w2' w3'
  have fin : ∀ t : S, Fx [6] [2, 3, 4, 5] [0] [] s t → gA t 0 = gA s 0 → gL t 2 = Int64.ofNat (if x = 0 then put m2 f else clr m2 f) → gL t 3 = Int64.ofNat (if x = 1 then put m3 f else clr m3 f) → ∃ s', k_enterState_134 (Int32.ofNat f) (Int32.ofNat x) t = some s' ∧ Fx [6] [2, 3, 4, 5] [0] [] s s' ∧ Geo s' ∧ RS s' (aupd st f x) := by
    intro t F a0 a2 a3
    refine ⟨sI (sA t 0 ((gA s 0).set f (Int32.ofNat x))) 6 1, ?_, (F.sA (by simp)).sI (by simp), ?_, ?_⟩
    · unfold k_enterState_134
      rw [a0, nbx, st_ofNat _ _ (by omega) (by omega), Option.bind_some]
    · have A : ∀ g, g ≠ 0 → gA (sI (sA t 0 ((gA s 0).set f (Int32.ofNat x))) 6 1) g = gA s g := fun g hg => by rw [gA_sI, gA_sA, if_neg hg, F.2.2.1 g (by simpa using hg)]
      refine ⟨?_, ?_, ?_, ?_, ?_, ?_, ?_, ?_, ?_, ?_, ?_⟩
      · rw [gI_sI, if_neg (by decide), gI_sA, F.1 0 (by simp), g0]
      · rw [gI_sI, if_neg (by decide), gI_sA, F.1 1 (by simp), g1]
      · rw [gA_sI, gA_sA, if_pos rfl, List.length_set, l0]
      · rw [A 1 (by decide), l1]
      · rw [A 2 (by decide), l2]
      · rw [A 3 (by decide), l3]
      · rw [A 4 (by decide), l4]
      · rw [A 5 (by decide), l5]
      · rw [A 6 (by decide), l6]
      · rw [gB_sI, gB_sA, F.2.2.2 7 (by simp), l7]
      · right; rw [gI_sI, if_pos rfl]
    · refine ⟨fun g hg => ?_, ⟨_, ?_, by rw [gL_sI, gL_sA]; exact a2, fun g hg => ?_⟩, ⟨_, ?_, by rw [gL_sI, gL_sA]; exact a3, fun g hg => ?_⟩, fun q => ?_⟩
      · rw [gA_sI, gA_sA, if_pos rfl]
        unfold aupd
        by_cases q : g = f
        · subst q; rw [if_pos rfl, List.getElem?_set_self (by omega)]; exact ⟨hx, rfl⟩
        · rw [if_neg q, List.getElem?_set_ne (by omega)]; exact r1 g hg
      · split
        · exact n2.2.1
        · exact n2.1
      · have := n2.2.2 ⟨g, hg⟩
        dsimp only at this
        unfold aupd
        by_cases q : g = f
        · subst q
          by_cases r : x = 0
          · rw [if_pos r, if_pos rfl, this.2]; simp [r]
          · rw [if_neg r, if_pos rfl, this.1]; simp [r]
        · have q' : ¬ (⟨g, hg⟩ : Fin 8) = ⟨f, hf⟩ := fun e => q (Fin.mk.inj e)
          rw [if_neg q]
          by_cases r : x = 0
          · rw [if_pos r, this.2, b2 g hg]; simp [q']
          · rw [if_neg r, this.1, b2 g hg]; simp [q']
      · split
        · exact n3.2.1
        · exact n3.1
      · have := n3.2.2 ⟨g, hg⟩
        dsimp only at this
        unfold aupd
        by_cases q : g = f
        · subst q
          by_cases r : x = 1
          · rw [if_pos r, if_pos rfl, this.2]; simp [r]
          · rw [if_neg r, if_pos rfl, this.1]; simp [r]
        · have q' : ¬ (⟨g, hg⟩ : Fin 8) = ⟨f, hf⟩ := fun e => q (Fin.mk.inj e)
          rw [if_neg q]
          by_cases r : x = 1
          · rw [if_pos r, this.2, b3 g hg]; simp [q']
          · rw [if_neg r, this.1, b3 g hg]; simp [q']
      · rw [gI_sI, if_pos rfl] at q; cases q
  unfold k_enterState
  rw [inr_yes g0 hf, if_neg (by decide)]
  have x4 : x = 0 ∨ x = 1 ∨ x = 2 ∨ x = 3 := by omega
  rcases x4 with rfl | rfl | rfl | rfl
  · rw [if_pos (show Int32.ofNat 0 = 0 from rfl)]
    exact fin _ (((((F0.sL (by simp)).sL (by simp)).sL (by simp)).sL (by simp)).sL (by simp)) (by simp only [gA_sL]) (by simp [gL_sL, e2, w2'.2]) (by simp [gL_sL, e3, w3'.1])
  · rw [if_neg (by decide), if_pos (show Int32.ofNat 1 = 1 from rfl)]
    exact fin _ (((((F0.sL (by simp)).sL (by simp)).sL (by simp)).sL (by simp)).sL (by simp)) (by simp only [gA_sL]) (by simp [gL_sL, e2, w2'.1]) (by simp [gL_sL, e3, w3'.2])
  · rw [if_neg (by decide), if_neg (by decide), if_pos (show Int32.ofNat 2 = 2 from rfl)]
    exact fin _ (((((F0.sL (by simp)).sL (by simp)).sL (by simp)).sL (by simp)).sL (by simp)) (by simp only [gA_sL]) (by simp [gL_sL, e2, w2'.1]) (by simp [gL_sL, e3, w3'.1])
  · rw [if_neg (by decide), if_neg (by decide), if_neg (by decide)]
    exact fin _ (((((F0.sL (by simp)).sL (by simp)).sL (by simp)).sL (by simp)).sL (by simp)) (by simp only [gA_sL]) (by simp [gL_sL, e2, w2'.1]) (by simp [gL_sL, e3, w3'.1])
def pcode : Option Nat → Int32
  | none => -1
  | some f => Int32.ofNat f
def RV (s : S) (val : Nat → Int32) : Prop := ∀ f, f < 8 → (gA s 1)[f]? = some (val f)
def RC (s : S) (c : Nat → Nat) : Prop := ∀ f, f < 8 → (gA s 2)[f]? = some (Int32.ofNat (c f))
def RP (s : S) (pf : Nat → Option Nat) : Prop := ∀ x, x < 64 → (gA s 3)[x]? = some (pcode (pf x))
def RM (s : S) (ls : Nat → List Nat) : Prop := ∀ f, f < 8 → ∃ h, (gA s 4)[f]? = some h ∧ Ch (gA s 5) (gA s 6) (-1) h (ls f)
def Dj (ls : Nat → List Nat) : Prop := (∀ f, f < 8 → (ls f).Nodup) ∧ ∀ f g x, f < 8 → g < 8 → x ∈ ls f → x ∈ ls g → f = g
theorem Geo.same {s t : S} (G : Geo s) (F : Fx [] [] [1, 2, 3, 4, 5, 6] [] s t) (l1 : (gA t 1).length = 64) (l2 : (gA t 2).length = 64) (l3 : (gA t 3).length = 64) (l4 : (gA t 4).length = 64) (l5 : (gA t 5).length = 64) (l6 : (gA t 6).length = 64) : Geo t := by
  obtain ⟨g0, g1, k0, _, _, _, _, _, _, k7, g6⟩ := id G
  exact ⟨by rw [F.1 0 (by simp)]; exact g0, by rw [F.1 1 (by simp)]; exact g1, by rw [F.2.2.1 0 (by simp)]; exact k0, l1, l2, l3, l4, l5, l6, by rw [F.2.2.2 7 (by simp)]; exact k7, by rw [F.1 6 (by simp)]; exact g6⟩
theorem link_ok {s : S} {pf : Nat → Option Nat} {ls : Nat → List Nat} (G : Geo s) (P : RP s pf) (M : RM s ls) (D : Dj ls) {x t : Nat} (hx : x < 64) (ht : t < 8) (hn : ∀ f, f < 8 → x ∉ ls f) : ∃ s', k_rmapLink (Int32.ofNat x) (Int32.ofNat t) s = some s' ∧ Fx [] [] [3, 4, 5, 6] [] s s' ∧ Geo s' ∧ RP s' (aupd pf x (some t)) ∧ RM s' (aupd ls t (x :: ls t)) := by
  obtain ⟨g0, g1, l0, l1, l2, l3, l4, l5, l6, l7, g6⟩ := id G
  obtain ⟨h, e4, c⟩ := M t ht
  have F0 : Fx [] [] [3, 4, 5, 6] [] s s := Fx.refl ..
  have hd := c.head
  obtain ⟨pv, hpv⟩ : ∃ pv, pv = setHd ((gA s 6).set x (-1)) (Int32.ofNat x) (ls t) := ⟨_, rfl⟩
  have lpv : pv.length = 64 := by rw [hpv]; cases ls t <;> simp [setHd, l6]
  have c' : Ch ((gA s 5).set x h) pv (-1) (Int32.ofNat x) (x :: ls t) := by
    rw [hpv]; exact c.link hx (hn t ht) (D.1 t ht) l5 l6
  obtain ⟨s', hs'⟩ : ∃ s', s' = sA (sA (sA (sA s 6 pv) 5 ((gA s 5).set x h)) 4 ((gA s 4).set t (Int32.ofNat x))) 3 ((gA s 3).set x (Int32.ofNat t)) := ⟨_, rfl⟩
  have a3 : gA s' 3 = (gA s 3).set x (Int32.ofNat t) := by rw [hs']; simp [gA_sA]
  have a4 : gA s' 4 = (gA s 4).set t (Int32.ofNat x) := by rw [hs']; simp [gA_sA]
  have a5 : gA s' 5 = (gA s 5).set x h := by rw [hs']; simp [gA_sA]
  have a6 : gA s' 6 = pv := by rw [hs']; simp [gA_sA]
  have F : Fx [] [] [3, 4, 5, 6] [] s s' := by rw [hs']; exact (((F0.sA (by simp)).sA (by simp)).sA (by simp)).sA (by simp)
  refine ⟨s', ?_, F, G.same (F.mono (by simp) (by simp) (by simp) (by simp)) (by rw [F.2.2.1 1 (by simp)]; exact l1) (by rw [F.2.2.1 2 (by simp)]; exact l2) (by rw [a3, List.length_set]; exact l3) (by rw [a4, List.length_set]; exact l4) (by rw [a5, List.length_set]; exact l5) (by rw [a6]; exact lpv), ?_, ?_⟩
  · unfold k_rmapLink k_rmapLink_38
    rw [ix_ofNat _ (by omega), e4, Option.bind_some, st_ofNat _ _ (by omega) (by omega), Option.bind_some, st_ofNat _ _ (by omega) (by omega), Option.bind_some]
    cases hl : ls t with
    | nil =>
      rw [hl] at hd hpv
      simp only [hdI, setHd] at hd hpv
      rw [hd, if_pos (by decide)]
      simp only [gA_sA]
      rw [if_neg (by decide), if_neg (by decide), if_neg (by decide), if_neg (by decide), st_ofNat _ _ (by omega) (by omega), Option.bind_some, st_ofNat _ _ (by omega) (by omega), Option.bind_some, hs', hpv, hd]
    | cons y r =>
      rw [hl] at hd hpv c
      simp only [hdI, setHd] at hd hpv
      have hy := c.2.1
      rw [hd, if_neg (ofNat_nonneg (by omega)), if_pos ((lt_lit (by omega)).mpr hy), st_ofNat _ _ (by omega) (by simp [l6]; omega), Option.bind_some]
      simp only [gA_sA]
      rw [if_neg (by decide), if_neg (by decide), if_neg (by decide), if_neg (by decide), if_neg (by decide), if_neg (by decide), st_ofNat _ _ (by omega) (by omega), Option.bind_some, st_ofNat _ _ (by omega) (by omega), Option.bind_some, hs', hpv, hd]
      rw [sA_comm _ (show (5 : Nat) ≠ 6 by decide), sA_same]
  · intro z hz
    rw [a3]
    unfold aupd
    by_cases q : z = x
    · subst q; rw [if_pos rfl, List.getElem?_set_self (by omega)]; rfl
    · rw [if_neg q, List.getElem?_set_ne (by omega)]; exact P z hz
  · intro f hf
    rw [a4, a5, a6]
    unfold aupd
    by_cases q : f = t
    · subst q
      rw [if_pos rfl, List.getElem?_set_self (by omega)]
      exact ⟨_, rfl, c'⟩
    · rw [if_neg q, List.getElem?_set_ne (by omega)]
      obtain ⟨h', e', k'⟩ := M f hf
      refine ⟨h', e', k'.congr fun z hz => ⟨?_, ?_⟩⟩
      · rw [List.getElem?_set_ne (fun e => hn f hf (by rw [e]; exact hz))]
      · rw [hpv]
        cases hl : ls t with
        | nil => simp only [setHd]; rw [List.getElem?_set_ne (fun e => hn f hf (by rw [e]; exact hz))]
        | cons y r =>
          simp only [setHd]
          rw [List.getElem?_set_ne (fun e => q (D.2 f t z hf ht hz (by rw [hl, ← e]; exact List.mem_cons_self ..))), List.getElem?_set_ne (fun e => hn f hf (by rw [e]; exact hz))]
theorem unlink_ok {s : S} {pf : Nat → Option Nat} {ls : Nat → List Nat} (G : Geo s) (P : RP s pf) (M : RM s ls) (D : Dj ls) {x t : Nat} {l1 l2 : List Nat} (hx : x < 64) (ht : t < 8) (hp : pf x = some t) (hl : ls t = l1 ++ x :: l2) : ∃ s', k_rmapUnlink (Int32.ofNat x) s = some (Int32.ofNat t, s') ∧ Fx [] [] [3, 4, 5, 6] [] s s' ∧ Geo s' ∧ RP s' (aupd pf x none) ∧ RM s' (aupd ls t (l1 ++ l2)) := by
  obtain ⟨g0, g1, l0, k1, k2, l3, l4, l5, l6, l7, g6⟩ := id G
  obtain ⟨h, e4, c⟩ := M t ht
  have nd := D.1 t ht
  rw [hl] at c nd
  obtain ⟨n, en, ep, cr⟩ := c.find
  have hn := cr.head
  have F0 : Fx [] [] [3, 4, 5, 6] [] s s := Fx.refl ..
  have cu := Ch.unlink l5 l6 c nd en
  have lts : ∀ y ∈ l1 ++ x :: l2, y < 64 := c.lt
  have xl : x ∉ l1 ++ l2 := fun q => by
    rw [List.nodup_append] at nd
    rcases List.mem_append.mp q with q | q
    · exact nd.2.2 x q x (List.mem_cons_self ..) rfl
    · exact (List.nodup_cons.mp nd.2.1).1 q
  have e3 : (gA s 3)[x]? = some (Int32.ofNat t) := by rw [P x hx, hp]; rfl
  obtain ⟨A4, hA4⟩ : ∃ A, A = (match l1 with | [] => (gA s 4).set t n | _ :: _ => gA s 4) := ⟨_, rfl⟩
  obtain ⟨A5, hA5⟩ : ∃ A, A = setLast (gA s 5) n l1.getLast? := ⟨_, rfl⟩
  obtain ⟨A6, hA6⟩ : ∃ A, A = setHd (gA s 6) (lastI (-1) l1.getLast?) l2 := ⟨_, rfl⟩
  have m4 : A4.length = 64 := by rw [hA4]; split <;> simp [l4]
  have m5 : A5.length = 64 := by rw [hA5]; cases l1.getLast? <;> simp [setLast, l5]
  have m6 : A6.length = 64 := by rw [hA6]; cases l2 <;> simp [setHd, l6]
  -- the last rows
  have last : ∀ (u : S) (v : Int32), gA u 6 = A6 → gA u 5 = A5 → gA u 3 = gA s 3 → k_rmapUnlink_95 (Int32.ofNat x) v u = some (v, sA (sA (sA u 6 (A6.set x (-1))) 5 (A5.set x (-1))) 3 ((gA s 3).set x (-1))) := fun u v h6 h5 h3 => by
    unfold k_rmapUnlink_95
    rw [h6, h5, h3, st_ofNat _ _ (by omega) (by omega), Option.bind_some, st_ofNat _ _ (by omega) (by omega), Option.bind_some, st_ofNat _ _ (by omega) (by omega), Option.bind_some]
  have mid : ∀ (u : S), gA u 6 = gA s 6 → gA u 5 = A5 → gA u 3 = gA s 3 → gA u 4 = A4 → Fx [] [] [3, 4, 5, 6] [] s u → ∃ s', k_rmapUnlink_75 (Int32.ofNat x) (Int32.ofNat t) (lastI (-1) l1.getLast?) n u = some (Int32.ofNat t, s') ∧ Fx [] [] [3, 4, 5, 6] [] s s' ∧ gA s' 3 = (gA s 3).set x (-1) ∧ gA s' 4 = A4 ∧ gA s' 5 = A5.set x (-1) ∧ gA s' 6 = A6.set x (-1) := fun u h6 h5 h3 h4 F => by
    unfold k_rmapUnlink_75
    cases hq : l2 with
    | nil =>
      rw [hq] at hn hA6
      simp only [hdI] at hn
      simp only [setHd] at hA6
      rw [hn, if_pos (by decide), last u _ (by rw [h6, hA6]) h5 h3]
      exact ⟨_, rfl, ((F.sA (by simp)).sA (by simp)).sA (by simp), by simp [gA_sA], by simp [gA_sA, h4], by simp [gA_sA], by simp [gA_sA]⟩
    | cons z r =>
      rw [hq] at hn hA6
      simp only [hdI] at hn
      simp only [setHd] at hA6
      have hz : z < 64 := lts z (by rw [hq]; simp)
      rw [hn, if_neg (ofNat_nonneg (by omega)), if_pos ((lt_lit (by omega)).mpr hz), h6, st_ofNat _ _ (by omega) (by omega), Option.bind_some, last _ _ (by rw [gA_sA, if_pos rfl, hA6]) (by rw [gA_sA, if_neg (by decide), h5]) (by rw [gA_sA, if_neg (by decide), h3])]
      exact ⟨_, rfl, (((F.sA (by simp)).sA (by simp)).sA (by simp)).sA (by simp), by simp [gA_sA], by simp [gA_sA, h4], by simp [gA_sA], by simp [gA_sA]⟩
  have go : ∃ s', k_rmapUnlink (Int32.ofNat x) s = some (Int32.ofNat t, s') ∧ Fx [] [] [3, 4, 5, 6] [] s s' ∧ gA s' 3 = (gA s 3).set x (-1) ∧ gA s' 4 = A4 ∧ gA s' 5 = A5.set x (-1) ∧ gA s' 6 = A6.set x (-1) := by
    unfold k_rmapUnlink
    rw [if_neg (ofNat_nonneg (by omega)), if_pos ((lt_lit (by omega)).mpr hx), ix_ofNat _ (by omega), e3, Option.bind_some, if_neg (ofNat_nonneg (by omega)), if_pos ((lt_lit (by omega)).mpr (show t < 64 by omega)), ix_ofNat _ (by omega), ep, Option.bind_some, ix_ofNat _ (by omega), en, Option.bind_some]
    cases hq : l1 with
    | nil =>
      rw [hq] at hA4 hA5 mid
      dsimp only at hA4
      change A5 = gA s 5 at hA5
      show ∃ s', (if (-1 : Int32) < 0 then k_rmapUnlink_67 (Int32.ofNat x) (Int32.ofNat t) (-1) n s else _) = _ ∧ _
      rw [if_pos (by decide)]
      unfold k_rmapUnlink_67
      rw [st_ofNat _ _ (by omega) (by omega), Option.bind_some]
      exact mid _ (by simp [gA_sA]) (by simp [gA_sA, hA5]) (by simp [gA_sA]) (by simp [gA_sA, hA4]) (F0.sA (by simp))
    | cons y r =>
      have hlast : ∃ w, l1.getLast? = some w ∧ w ∈ l1 := by
        cases e : l1.getLast? with
        | none => rw [hq] at e; simp at e
        | some w => exact ⟨w, rfl, List.mem_of_getLast? e⟩
      obtain ⟨w, ew, hw⟩ := hlast
      have hw64 : w < 64 := lts w (List.mem_append_left _ hw)
      rw [← hq]
      rw [ew] at hA5 mid ⊢
      change A5 = (gA s 5).set w n at hA5
      show ∃ s', (if Int32.ofNat w < 0 then _ else if Int32.ofNat w < 64 then (Jvm.AM.st (gA s 5) (Int32.ofNat w) n).bind fun a63 => k_rmapUnlink_75 (Int32.ofNat x) (Int32.ofNat t) (Int32.ofNat w) n (sA s 5 a63) else _) = _ ∧ _
      rw [hq] at hA4
      dsimp only at hA4
      rw [if_neg (ofNat_nonneg (by omega)), if_pos ((lt_lit (by omega)).mpr hw64), st_ofNat _ _ (by omega) (by omega), Option.bind_some]
      exact mid _ (by simp [gA_sA]) (by simp [gA_sA, hA5]) (by simp [gA_sA]) (by simp [gA_sA, hA4]) (F0.sA (by simp))
  obtain ⟨s', es, F, a3, a4, a5, a6⟩ := go
  refine ⟨s', es, F, G.same (F.mono (by simp) (by simp) (by simp) (by simp)) (by rw [F.2.2.1 1 (by simp)]; exact k1) (by rw [F.2.2.1 2 (by simp)]; exact k2) (by rw [a3, List.length_set]; exact l3) (by rw [a4]; exact m4) (by rw [a5, List.length_set]; exact m5) (by rw [a6, List.length_set]; exact m6), ?_, ?_⟩
  · intro z hz
    rw [a3]
    unfold aupd
    by_cases q : z = x
    · subst q; rw [if_pos rfl, List.getElem?_set_self (by omega)]; rfl
    · rw [if_neg q, List.getElem?_set_ne (by omega)]; exact P z hz
  · intro f hf
    rw [a4, a5, a6]
    unfold aupd
    by_cases q : f = t
    · subst q
      rw [if_pos rfl]
      refine ⟨hdOr n h l1, ?_, ?_⟩
      · rw [hA4]
        cases l1 with
        | nil => simp only [hdOr]; rw [List.getElem?_set_self (by omega)]
        | cons y r => simp only [hdOr]; exact e4
      · rw [← hA5, ← hA6] at cu
        exact cu.congr fun z hz => ⟨by rw [List.getElem?_set_ne (fun e => xl (by rw [e]; exact hz))], by rw [List.getElem?_set_ne (fun e => xl (by rw [e]; exact hz))]⟩
    · rw [if_neg q]
      obtain ⟨h', e', c'⟩ := M f hf
      have dj : ∀ z ∈ ls f, z ∉ l1 ++ x :: l2 := fun z hz hz' => q (D.2 f t z hf ht hz (by rw [hl]; exact hz'))
      refine ⟨h', ?_, c'.congr fun z hz => ?_⟩
      · rw [hA4]
        cases l1 with
        | nil => dsimp only; rw [List.getElem?_set_ne (by omega)]; exact e'
        | cons y r => exact e'
      · have z1 : z ≠ x := fun e => dj z hz (by rw [e]; simp)
        refine ⟨?_, ?_⟩
        · rw [List.getElem?_set_ne z1.symm, hA5]
          cases e : l1.getLast? with
          | none => rfl
          | some w =>
            simp only [setLast]
            rw [List.getElem?_set_ne (fun e2 => dj z hz (by rw [← e2]; exact List.mem_append_left _ (List.mem_of_getLast? e)))]
        · rw [List.getElem?_set_ne z1.symm, hA6]
          cases e : l2 with
          | nil => rfl
          | cons w r =>
            simp only [setHd]
            rw [List.getElem?_set_ne (fun e2 => dj z hz (by rw [← e2, e]; simp))]
def setAll (v : Int32) : List Nat → List Int32 → List Int32
  | [], A => A
  | x :: r, A => setAll v r (A.set x v)
theorem setAll_len (v : Int32) : ∀ (l : List Nat) (A : List Int32), (setAll v l A).length = A.length
  | [], _ => rfl
  | x :: r, A => by simp [setAll, setAll_len v r]
theorem setAll_get (v : Int32) : ∀ (l : List Nat) (A : List Int32) (z : Nat), z < A.length → (setAll v l A)[z]? = if z ∈ l then some v else A[z]?
  | [], A, z, _ => by simp [setAll]
  | x :: r, A, z, hz => by
    simp only [setAll]
    rw [setAll_get v r _ z (by simpa using hz)]
    by_cases q : z ∈ r
    · rw [if_pos q, if_pos (List.mem_cons_of_mem _ q)]
    · rw [if_neg q]
      by_cases e : z = x
      · subst e; rw [List.getElem?_set_self hz, if_pos (List.mem_cons_self ..)]
      · rw [List.getElem?_set_ne (Ne.symm e), if_neg (fun h => (List.mem_cons.mp h).elim e q)]
theorem transfer_loop (v1 v2 : Int32) : ∀ (l : List Nat) (n i : Nat) (p h : Int32) (s : S), Ch (gA s 5) (gA s 6) p h l → (gA s 3).length = 64 → i + l.length ≤ 64 → l.length < n → k_rmapTransfer_10 n v1 v2 h (Int32.ofNat i) s = k_rmapTransfer_47 v1 v2 (sA s 3 (setAll v2 l (gA s 3)))
  | [], 0, i, p, h, s, c, l3, hi, hn => absurd hn (by simp)
  | [], n + 1, i, p, h, s, c, l3, hi, hn => by
    have e : sA s 3 (setAll v2 [] (gA s 3)) = s := by
      simp only [setAll]
      unfold Jvm.AM.sA gA
      have : aupd s.2.2.1 3 (s.2.2.1 3) = s.2.2.1 := by funext x; unfold aupd; by_cases q : x = 3 <;> simp [q]
      rw [this]
    rw [k_rmapTransfer_10, e]
    have hh : h = -1 := c
    rw [hh, if_pos (show (-1 : Int32) < 0 by decide)]
    split <;> rfl
  | x :: r, 0, i, p, h, s, c, l3, hi, hn => absurd hn (by simp)
  | x :: r, n + 1, i, p, h, s, c, l3, hi, hn => by
    obtain ⟨c1, c2, c3, m, c4, c5⟩ := c
    simp only [List.length_cons] at hi hn
    rw [k_rmapTransfer_10, if_pos ((lt_lit (by omega)).mpr (show i < 64 by omega)), c1, if_neg (ofNat_nonneg (by omega)), if_pos ((lt_lit (by omega)).mpr c2), st_ofNat _ _ (by omega) (by omega), Option.bind_some, ix_ofNat _ (by omega), c4, Option.bind_some, ofNat_succ]
    rw [transfer_loop v1 v2 r n (i + 1) (Int32.ofNat x) m (sA s 3 ((gA s 3).set x v2)) (by rw [gA_sA, if_neg (by decide), gA_sA, if_neg (by decide)]; exact c5) (by rw [gA_sA, if_pos rfl, List.length_set]; exact l3) (by omega) (by omega)]
    rw [sA_same, gA_sA, if_pos rfl]; rfl
theorem nodup_len {l : List Nat} (nd : l.Nodup) {n : Nat} (h : ∀ x ∈ l, x < n) : l.length ≤ n := by
  have := List.Nodup.length_le_of_subset nd (l₂ := List.range n) (fun x hx => List.mem_range.mpr (h x hx))
  simpa using this
theorem transfer_ok {s : S} {pf : Nat → Option Nat} {ls : Nat → List Nat} (G : Geo s) (P : RP s pf) (M : RM s ls) (D : Dj ls) {f g : Nat} (hf : f < 8) (hg : g < 8) (hne : f ≠ g) (hgl : ls g = []) : ∃ s', k_rmapTransfer (Int32.ofNat f) (Int32.ofNat g) s = some s' ∧ Fx [] [] [3, 4] [] s s' ∧ Geo s' ∧ RP s' (fun x => if x ∈ ls f then some g else pf x) ∧ RM s' (aupd (aupd ls g (ls f)) f []) := by
  obtain ⟨g0, g1, l0, k1, k2, l3, l4, l5, l6, l7, g6⟩ := id G
  obtain ⟨h, e4, c⟩ := M f hf
  have hlen := nodup_len (D.1 f hf) c.lt
  have F0 : Fx [] [] [3, 4] [] s s := Fx.refl ..
  obtain ⟨s', hs'⟩ : ∃ s', s' = sA (sA s 3 (setAll (Int32.ofNat g) (ls f) (gA s 3))) 4 (((gA s 4).set g h).set f (-1)) := ⟨_, rfl⟩
  have F : Fx [] [] [3, 4] [] s s' := by rw [hs']; exact (F0.sA (by simp)).sA (by simp)
  have a3 : gA s' 3 = setAll (Int32.ofNat g) (ls f) (gA s 3) := by rw [hs']; simp [gA_sA]
  have a4 : gA s' 4 = ((gA s 4).set g h).set f (-1) := by rw [hs']; simp [gA_sA]
  have a5 : gA s' 5 = gA s 5 := F.2.2.1 5 (by simp)
  have a6 : gA s' 6 = gA s 6 := F.2.2.1 6 (by simp)
  refine ⟨s', ?_, F, G.same (F.mono (by simp) (by simp) (by simp) (by simp)) (by rw [F.2.2.1 1 (by simp)]; exact k1) (by rw [F.2.2.1 2 (by simp)]; exact k2) (by rw [a3, setAll_len]; exact l3) (by rw [a4]; simp [l4]) (by rw [a5]; exact l5) (by rw [a6]; exact l6), ?_, ?_⟩
  · unfold k_rmapTransfer
    rw [ix_ofNat _ (by omega), e4, Option.bind_some, show (0 : Int32) = Int32.ofNat 0 from rfl, transfer_loop _ _ (ls f) BIG 0 (-1) h s c l3 (by omega) (by unfold BIG; omega)]
    unfold k_rmapTransfer_47
    rw [gA_sA, if_neg (by decide), ix_ofNat _ (by omega), e4, Option.bind_some, st_ofNat _ _ (by omega) (by omega), Option.bind_some, st_ofNat _ _ (by omega) (by simp; omega), Option.bind_some, sA_same, hs']
  · intro x hx
    rw [a3, setAll_get _ _ _ _ (by omega)]
    dsimp only
    by_cases q : x ∈ ls f
    · rw [if_pos q, if_pos q]; rfl
    · rw [if_neg q, if_neg q]; exact P x hx
  · intro k hk
    rw [a4, a5, a6]
    unfold aupd
    by_cases q : k = f
    · subst q
      rw [if_pos rfl, List.getElem?_set_self (by simp; omega)]
      exact ⟨-1, rfl, rfl⟩
    · rw [if_neg q, List.getElem?_set_ne (by omega)]
      by_cases r : k = g
      · subst r
        rw [if_pos rfl, List.getElem?_set_self (by omega)]
        exact ⟨h, rfl, c⟩
      · rw [if_neg r, List.getElem?_set_ne (by omega)]
        exact M k hk
theorem attach_ok {s : S} {pf : Nat → Option Nat} {ls : Nat → List Nat} {c : Nat → Nat} (G : Geo s) (C : RC s c) (P : RP s pf) (M : RM s ls) (D : Dj ls) {x t : Nat} (hx : x < 64) (ht : t < 8) (hn : ∀ f, f < 8 → x ∉ ls f) : ∃ s', k_attachPage (Int32.ofNat x) (Int32.ofNat t) s = some s' ∧ Fx [] [] [2, 3, 4, 5, 6] [] s s' ∧ Geo s' ∧ RC s' (aupd c t (c t + 1)) ∧ RP s' (aupd pf x (some t)) ∧ RM s' (aupd ls t (x :: ls t)) := by
  obtain ⟨u, eu, F, Gu, Pu, Mu⟩ := link_ok G P M D hx ht hn
  obtain ⟨g0, g1, l0, k1, k2, l3, l4, l5, l6, l7, g6⟩ := id Gu
  have u2 : gA u 2 = gA s 2 := F.2.2.1 2 (by simp)
  have hc : (gA u 2)[t]? = some (Int32.ofNat (c t)) := by rw [u2]; exact C t ht
  have F' : Fx [] [] [2, 3, 4, 5, 6] [] s u := F.mono (by simp) (by simp) (by simp) (by simp)
  obtain ⟨v, hv⟩ : ∃ v, v = sA u 2 ((gA u 2).set t (Int32.ofNat (c t + 1))) := ⟨_, rfl⟩
  have A : ∀ f, f ≠ 2 → gA v f = gA u f := fun f hf => by rw [hv, gA_sA, if_neg hf]
  have A2 : gA v 2 = (gA u 2).set t (Int32.ofNat (c t + 1)) := by rw [hv, gA_sA, if_pos rfl]
  have Fv : Fx [] [] [1, 2, 3, 4, 5, 6] [] u v := by
    have F0 : Fx [] [] [1, 2, 3, 4, 5, 6] [] u u := Fx.refl ..
    rw [hv]; exact F0.sA (by simp)
  refine ⟨v, ?_, by rw [hv]; exact F'.sA (by simp), Gu.same Fv (by rw [A 1 (by decide)]; exact k1) (by rw [A2, List.length_set]; exact k2) (by rw [A 3 (by decide)]; exact l3) (by rw [A 4 (by decide)]; exact l4) (by rw [A 5 (by decide)]; exact l5) (by rw [A 6 (by decide)]; exact l6), ?_, ?_, ?_⟩
  · unfold k_attachPage
    rw [if_neg (ofNat_nonneg (by omega)), if_pos ((lt_lit (by omega)).mpr hx), inr_yes G.1 ht, if_neg (by decide), eu, Option.bind_some, ix_ofNat _ (by omega), hc, Option.bind_some, ofNat_succ, st_ofNat _ _ (by omega) (by omega), Option.bind_some, hv]
  · intro f hf
    rw [A2]
    unfold aupd
    by_cases q : f = t
    · subst q; rw [if_pos rfl, List.getElem?_set_self (by omega)]
    · rw [if_neg q, List.getElem?_set_ne (by omega), u2]; exact C f hf
  · intro z hz; rw [A 3 (by decide)]; exact Pu z hz
  · intro f hf; rw [A 4 (by decide), A 5 (by decide), A 6 (by decide)]; exact Mu f hf
theorem detach_ok {s : S} {pf : Nat → Option Nat} {ls : Nat → List Nat} {c : Nat → Nat} (G : Geo s) (C : RC s c) (P : RP s pf) (M : RM s ls) (D : Dj ls) {x t : Nat} {l1 l2 : List Nat} (hx : x < 64) (ht : t < 8) (hp : pf x = some t) (hl : ls t = l1 ++ x :: l2) (hc0 : 0 < c t) : ∃ s', k_detachPage (Int32.ofNat x) s = some (Int32.ofNat t, s') ∧ Fx [] [] [2, 3, 4, 5, 6] [] s s' ∧ Geo s' ∧ RC s' (aupd c t (c t - 1)) ∧ RP s' (aupd pf x none) ∧ RM s' (aupd ls t (l1 ++ l2)) := by
  obtain ⟨u, eu, F, Gu, Pu, Mu⟩ := unlink_ok G P M D hx ht hp hl
  obtain ⟨g0, g1, l0, k1, k2, l3, l4, l5, l6, l7, g6⟩ := id Gu
  have u2 : gA u 2 = gA s 2 := F.2.2.1 2 (by simp)
  have hc : (gA u 2)[t]? = some (Int32.ofNat (c t)) := by rw [u2]; exact C t ht
  have F' : Fx [] [] [2, 3, 4, 5, 6] [] s u := F.mono (by simp) (by simp) (by simp) (by simp)
  obtain ⟨v, hv⟩ : ∃ v, v = sA u 2 ((gA u 2).set t (Int32.ofNat (c t - 1))) := ⟨_, rfl⟩
  have A : ∀ f, f ≠ 2 → gA v f = gA u f := fun f hf => by rw [hv, gA_sA, if_neg hf]
  have A2 : gA v 2 = (gA u 2).set t (Int32.ofNat (c t - 1)) := by rw [hv, gA_sA, if_pos rfl]
  have Fv : Fx [] [] [1, 2, 3, 4, 5, 6] [] u v := by
    have F0 : Fx [] [] [1, 2, 3, 4, 5, 6] [] u u := Fx.refl ..
    rw [hv]; exact F0.sA (by simp)
  have sub1 : Int32.ofNat (c t) - 1 = Int32.ofNat (c t - 1) := by
    obtain ⟨m, hm⟩ : ∃ m, c t = m + 1 := ⟨c t - 1, by omega⟩
    rw [hm, ← ofNat_succ, Int32.add_sub_cancel]; rfl
  refine ⟨v, ?_, by rw [hv]; exact F'.sA (by simp), Gu.same Fv (by rw [A 1 (by decide)]; exact k1) (by rw [A2, List.length_set]; exact k2) (by rw [A 3 (by decide)]; exact l3) (by rw [A 4 (by decide)]; exact l4) (by rw [A 5 (by decide)]; exact l5) (by rw [A 6 (by decide)]; exact l6), ?_, ?_, ?_⟩
  · unfold k_detachPage
    rw [eu, Option.bind_some]
    dsimp only
    rw [inr_yes g0 ht, if_neg (by decide), ix_ofNat _ (by omega), hc, Option.bind_some, sub1, st_ofNat _ _ (by omega) (by omega), Option.bind_some, hv]
  · intro f hf
    rw [A2]
    unfold aupd
    by_cases q : f = t
    · subst q; rw [if_pos rfl, List.getElem?_set_self (by omega)]
    · rw [if_neg q, List.getElem?_set_ne (by omega), u2]; exact C f hf
  · intro z hz; rw [A 3 (by decide)]; exact Pu z hz
  · intro f hf; rw [A 4 (by decide), A 5 (by decide), A 6 (by decide)]; exact Mu f hf
/-- what freeFrame and reserveFrame write ahead of the state -/
theorem wipe_ok {s : S} {st : Nat → Nat} {val : Nat → Int32} {c : Nat → Nat} {ls : Nat → List Nat} {pf : Nat → Option Nat} (G : Geo s) (R : RS s st) (V : RV s val) (C : RC s c) (P : RP s pf) (M : RM s ls) {f x : Nat} (hf : f < 8) (hx : x ≤ 3) (hl : ls f = []) : ∃ t s', t = sA (sA (sA s 1 ((gA s 1).set f 0)) 2 ((gA s 2).set f 0)) 4 ((gA s 4).set f (-1)) ∧ k_enterState (Int32.ofNat f) (Int32.ofNat x) t = some s' ∧ Fx [6] [2, 3, 4, 5] [0, 1, 2, 4] [] s s' ∧ Geo s' ∧ RS s' (aupd st f x) ∧ RV s' (aupd val f 0) ∧ RC s' (aupd c f 0) ∧ RP s' pf ∧ RM s' ls := by
  obtain ⟨g0, g1, l0, k1, k2, l3, l4, l5, l6, l7, g6⟩ := id G
  obtain ⟨t, ht⟩ : ∃ t, t = sA (sA (sA s 1 ((gA s 1).set f 0)) 2 ((gA s 2).set f 0)) 4 ((gA s 4).set f (-1)) := ⟨_, rfl⟩
  have F0 : Fx [] [] [1, 2, 3, 4, 5, 6] [] s s := Fx.refl ..
  have Ft : Fx [] [] [1, 2, 3, 4, 5, 6] [] s t := by rw [ht]; exact ((F0.sA (by simp)).sA (by simp)).sA (by simp)
  have F1 : Fx [6] [2, 3, 4, 5] [0, 1, 2, 4] [] s t := by
    have F1 : Fx [6] [2, 3, 4, 5] [0, 1, 2, 4] [] s s := Fx.refl ..
    rw [ht]; exact ((F1.sA (by simp)).sA (by simp)).sA (by simp)
  have t1 : gA t 1 = (gA s 1).set f 0 := by rw [ht]; simp [gA_sA]
  have t2 : gA t 2 = (gA s 2).set f 0 := by rw [ht]; simp [gA_sA]
  have t4 : gA t 4 = (gA s 4).set f (-1) := by rw [ht]; simp [gA_sA]
  have t3 : gA t 3 = gA s 3 := by rw [ht]; simp [gA_sA]
  have t5 : gA t 5 = gA s 5 := by rw [ht]; simp [gA_sA]
  have t6 : gA t 6 = gA s 6 := by rw [ht]; simp [gA_sA]
  have t0 : gA t 0 = gA s 0 := by rw [ht]; simp [gA_sA]
  have Gt : Geo t := G.same Ft (by rw [t1, List.length_set]; exact k1) (by rw [t2, List.length_set]; exact k2) (by rw [t3]; exact l3) (by rw [t4, List.length_set]; exact l4) (by rw [t5]; exact l5) (by rw [t6]; exact l6)
  have Rt : RS t st := by
    obtain ⟨r1, r2, r3, r4⟩ := R
    exact ⟨by rw [t0]; exact r1, by rw [Ft.2.1 2 (by simp)]; exact r2, by rw [Ft.2.1 3 (by simp)]; exact r3, by rw [Ft.1 6 (by simp), Ft.2.2.2 7 (by simp), Ft.2.1 2 (by simp)]; exact r4⟩
  obtain ⟨s', e, F, G', R'⟩ := enter_ok Gt Rt hf hx
  have A : ∀ k, k ≠ 0 → gA s' k = gA t k := fun k hk => F.2.2.1 k (by simpa using hk)
  refine ⟨t, s', ht, e, F1.trans (F.mono (by simp) (by simp) (by simp) (by simp)), G', R', ?_, ?_, ?_, ?_⟩
  · intro k hk
    rw [A 1 (by decide), t1]
    unfold aupd
    by_cases q : k = f
    · subst q; rw [if_pos rfl, List.getElem?_set_self (by omega)]
    · rw [if_neg q, List.getElem?_set_ne (by omega)]; exact V k hk
  · intro k hk
    rw [A 2 (by decide), t2]
    unfold aupd
    by_cases q : k = f
    · subst q; rw [if_pos rfl, List.getElem?_set_self (by omega)]; rfl
    · rw [if_neg q, List.getElem?_set_ne (by omega)]; exact C k hk
  · intro z hz; rw [A 3 (by decide), t3]; exact P z hz
  · intro k hk
    rw [A 4 (by decide), A 5 (by decide), A 6 (by decide), t4, t5, t6]
    by_cases q : k = f
    · subst q
      rw [List.getElem?_set_self (by omega), hl]
      exact ⟨-1, rfl, rfl⟩
    · rw [List.getElem?_set_ne (by omega)]; exact M k hk
theorem free_ok {s : S} {st : Nat → Nat} {val : Nat → Int32} {c : Nat → Nat} {ls : Nat → List Nat} {pf : Nat → Option Nat} (G : Geo s) (R : RS s st) (V : RV s val) (C : RC s c) (P : RP s pf) (M : RM s ls) {f : Nat} (hf : f < 8) (hl : ls f = []) : ∃ s', k_freeFrame (Int32.ofNat f) s = some s' ∧ Fx [6] [2, 3, 4, 5] [0, 1, 2, 4] [] s s' ∧ Geo s' ∧ RS s' (aupd st f 0) ∧ RV s' (aupd val f 0) ∧ RC s' (aupd c f 0) ∧ RP s' pf ∧ RM s' ls := by
  obtain ⟨g0, g1, l0, k1, k2, l3, l4, l5, l6, l7, g6⟩ := id G
  obtain ⟨t, s', ht, e, r⟩ := wipe_ok G R V C P M hf (x := 0) (by omega) hl
  refine ⟨s', ?_, r⟩
  unfold k_freeFrame
  rw [inr_yes g0 hf, if_neg (by decide), st_ofNat _ _ (by omega) (by omega), Option.bind_some, st_ofNat _ _ (by omega) (by omega), Option.bind_some, st_ofNat _ _ (by omega) (by omega), Option.bind_some, ← ht, show (0 : Int32) = Int32.ofNat 0 from rfl, e, Option.bind_some]
theorem reserve_ok {s : S} {st : Nat → Nat} {val : Nat → Int32} {c : Nat → Nat} {ls : Nat → List Nat} {pf : Nat → Option Nat} (G : Geo s) (R : RS s st) (V : RV s val) (C : RC s c) (P : RP s pf) (M : RM s ls) {f : Nat} (hf : f < 8) (hl : ls f = []) : ∃ s', k_reserveFrame (Int32.ofNat f) s = some s' ∧ Fx [6] [2, 3, 4, 5] [0, 1, 2, 4] [] s s' ∧ Geo s' ∧ RS s' (aupd st f 3) ∧ RV s' (aupd val f 0) ∧ RC s' (aupd c f 0) ∧ RP s' pf ∧ RM s' ls := by
  obtain ⟨g0, g1, l0, k1, k2, l3, l4, l5, l6, l7, g6⟩ := id G
  obtain ⟨t, s', ht, e, r⟩ := wipe_ok G R V C P M hf (x := 3) (by omega) hl
  refine ⟨s', ?_, r⟩
  unfold k_reserveFrame
  rw [inr_yes g0 hf, if_neg (by decide), st_ofNat _ _ (by omega) (by omega), Option.bind_some, st_ofNat _ _ (by omega) (by omega), Option.bind_some, st_ofNat _ _ (by omega) (by omega), Option.bind_some, ← ht, show (3 : Int32) = Int32.ofNat 3 from rfl, e, Option.bind_some]
abbrev Abs : Type := (Nat → Nat) × (Nat → Int32) × (Nat → Option Nat)
def Con (a : Abs) (c : Nat → Nat) (ls : Nat → List Nat) : Prop := Dj ls ∧ (∀ f, f < 8 → c f = (ls f).length) ∧ (∀ f x, f < 8 → (x ∈ ls f ↔ a.2.2 x = some f)) ∧ (∀ x f, a.2.2 x = some f → f < 8 ∧ x < 64 ∧ x % 16 < 4) ∧ (∀ f, f < 8 → (0 < c f ↔ (a.1 f = 1 ∨ a.1 f = 2))) ∧ (∀ f, f < 8 → (a.1 f = 0 ∨ a.1 f = 3) → a.2.1 f = 0)
/-- the compactor s shows the abstract state a -/
def R (s : S) (a : Abs) : Prop := ∃ c ls, Geo s ∧ RS s a.1 ∧ RV s a.2.1 ∧ RC s c ∧ RP s a.2.2 ∧ RM s ls ∧ Con a c ls
def aSlot (v1 v2 : Int32) : Option Nat := if v1 < 0 then none else if v1 < 4 then (if v2 < 0 then none else if v2 < 4 then some (v1.toNatClampNeg * 16 + v2.toNatClampNeg) else none) else none
theorem page_cases {s : S} (h : gI s 1 = 4) (v1 v2 : Int32) : (aSlot v1 v2 = none ∧ k_pageInRange v1 v2 s = 0) ∨ ∃ x, aSlot v1 v2 = some x ∧ x < 64 ∧ x % 16 < 4 ∧ k_pageInRange v1 v2 s = 1 ∧ k_slotOf v1 v2 = Int32.ofNat x := by
  unfold aSlot k_pageInRange k_slotOf
  rw [h]
  by_cases q1 : v1 < 0
  · left; simp [q1]
  by_cases q2 : v1 < 4
  · by_cases q3 : v2 < 0
    · left; simp [q1, q2, q3]
    by_cases q4 : v2 < 4
    · right
      have c1 := clamp_lt (n := 4) q1 q2 (by omega)
      have c2 := clamp_lt (n := 4) q3 q4 (by omega)
      refine ⟨v1.toNatClampNeg * 16 + v2.toNatClampNeg, by simp [q1, q2, q3, q4], by omega, by omega, by simp [q1, q2, q3, q4], ?_⟩
      obtain ⟨p, hp⟩ : ∃ p, p = v1.toNatClampNeg := ⟨_, rfl⟩
      obtain ⟨r, hr⟩ : ∃ r, r = v2.toNatClampNeg := ⟨_, rfl⟩
      have e1 := (eq_ofNat q1).1
      have e2 := (eq_ofNat q3).1
      rw [← hp] at e1 ⊢
      rw [← hr] at e2 ⊢
      rw [e1, e2, show Int32.ofNat p * 16 = Int32.ofNat (p * 16) from (Int32.ofNat_mul p 16).symm, ofNat_add']
    · left; simp [q1, q2, q3, q4]
  · left; simp [q1, q2]
def lowFree (st : Nat → Nat) : Option Nat := (List.range 8).find? fun f => st f = 0
theorem lowFree_ok {m : Nat} (hm : m < 256) {st : Nat → Nat} (b : ∀ f, f < 8 → m.testBit f = decide (st f = 0)) : (m = 0 ∧ lowFree st = none) ∨ (m ≠ 0 ∧ lowFree st = some (low m) ∧ low m < 8 ∧ st (low m) = 0 ∧ k_lowestBit (Int64.ofNat m) = Int32.ofNat (low m)) := by
  by_cases q : m = 0
  · left
    refine ⟨q, ?_⟩
    unfold lowFree
    rw [List.find?_eq_none]
    intro f hf
    have := b f (List.mem_range.mp hf)
    rw [q, Nat.zero_testBit] at this
    simpa using this
  · right
    obtain ⟨w1, w2, w3, w4⟩ := w_low ⟨m, hm⟩ q
    dsimp only at w1 w2 w3 w4
    have hs : st (low m) = 0 := by
      have := b (low m) w3
      rw [w2] at this; simpa using this.symm
    refine ⟨q, ?_, w3, hs, w1⟩
    unfold lowFree
    rw [List.find?_range_eq_some]
    refine ⟨by simpa using hs, by simpa using w3, ?_⟩
    intro j hj
    have := b j (by omega)
    rw [w4 ⟨j, by omega⟩ hj] at this
    simpa using this.symm
def aMapNew (a : Abs) (v1 v2 v : Int32) : Int32 × Abs := match aSlot v1 v2 with
  | none => (-1, a)
  | some x => match a.2.2 x with
    | some _ => (-2, a)
    | none => match lowFree a.1 with
      | none => (-4, a)
      | some f => (Int32.ofNat f, (aupd a.1 f 1, aupd a.2.1 f v, aupd a.2.2 x (some f)))
theorem con_map {a : Abs} {c : Nat → Nat} {ls : Nat → List Nat} (K : Con a c ls) {f x : Nat} (hf : f < 8) (hx : x < 64) (hx4 : x % 16 < 4) (hs : a.1 f = 0) (hp : a.2.2 x = none) (v : Int32) : Con (aupd a.1 f 1, aupd a.2.1 f v, aupd a.2.2 x (some f)) (aupd c f (c f + 1)) (aupd ls f (x :: ls f)) := by
  obtain ⟨D, k1, k2, k3, k4, k5⟩ := K
  have nx : ∀ g, g < 8 → x ∉ ls g := fun g hg q => by rw [(k2 g x hg).mp q] at hp; cases hp
  refine ⟨⟨fun g hg => ?_, fun g g' y hg hg' q q' => ?_⟩, fun g hg => ?_, fun g y hg => ?_, fun y g q => ?_, fun g hg => ?_, fun g hg q => ?_⟩
  · unfold aupd
    by_cases e : g = f
    · rw [if_pos e]; exact List.nodup_cons.mpr ⟨nx f hf, D.1 f hf⟩
    · rw [if_neg e]; exact D.1 g hg
  · unfold aupd at q q'
    by_cases e : g = f
    · by_cases e' : g' = f
      · rw [e, e']
      · rw [if_pos e] at q; rw [if_neg e'] at q'
        rcases List.mem_cons.mp q with q | q
        · rw [q] at q'; exact absurd q' (nx g' hg')
        · rw [e]; exact D.2 f g' y hf hg' q q'
    · by_cases e' : g' = f
      · rw [if_neg e] at q; rw [if_pos e'] at q'
        rcases List.mem_cons.mp q' with q' | q'
        · rw [q'] at q; exact absurd q (nx g hg)
        · rw [e']; exact D.2 g f y hg hf q q'
      · rw [if_neg e] at q; rw [if_neg e'] at q'
        exact D.2 g g' y hg hg' q q'
  · unfold aupd
    by_cases e : g = f
    · rw [if_pos e, if_pos e, k1 f hf]; rfl
    · rw [if_neg e, if_neg e]; exact k1 g hg
  · dsimp only
    unfold aupd
    by_cases e : g = f
    · rw [if_pos e, List.mem_cons]
      by_cases r : y = x
      · simp [r, e]
      · rw [if_neg r, e]
        constructor
        · rintro (q | q)
          · exact absurd q r
          · exact (k2 f y hf).mp q
        · intro q; exact Or.inr ((k2 f y hf).mpr q)
    · rw [if_neg e]
      by_cases r : y = x
      · rw [if_pos r, r]
        constructor
        · intro q; exact absurd q (nx g hg)
        · intro q; exact absurd (Option.some.inj q).symm e
      · rw [if_neg r]; exact k2 g y hg
  · dsimp only at q
    unfold aupd at q
    by_cases r : y = x
    · rw [if_pos r] at q; cases q; rw [r]; exact ⟨hf, hx, hx4⟩
    · rw [if_neg r] at q; exact k3 y g q
  · dsimp only
    unfold aupd
    by_cases e : g = f
    · rw [if_pos e, if_pos e]; simp
    · rw [if_neg e, if_neg e]; exact k4 g hg
  · dsimp only at q ⊢
    unfold aupd at q ⊢
    by_cases e : g = f
    · rw [if_pos e] at q; omega
    · rw [if_neg e] at q ⊢; exact k5 g hg q
theorem upd_self {A : Type} (g : Nat → A) (f : Nat) : aupd g f (g f) = g := by
  funext x; unfold aupd; by_cases q : x = f <;> simp [q]
theorem mapNew_ok {s : S} {a : Abs} (h : R s a) (v1 v2 v : Int32) : ∃ s', k_mapNew v1 v2 v s = some ((aMapNew a v1 v2 v).1, s') ∧ R s' (aMapNew a v1 v2 v).2 := by
  obtain ⟨c, ls, G, RS', V, C, P, M, K⟩ := id h
  obtain ⟨g0, g1, l0, k1, k2, l3, l4, l5, l6, l7, g6⟩ := id G
  obtain ⟨D, q1, q2, q3, q4, q5⟩ := id K
  obtain ⟨r1, ⟨m2, h2, e2, b2⟩, _, _⟩ := id RS'
  rcases page_cases g1 v1 v2 with ⟨n1, n2⟩ | ⟨x, n1, hx, hx4, n2, n3⟩
  · refine ⟨s, ?_, ?_⟩
    · unfold k_mapNew k_checkTarget aMapNew
      rw [n1, n2, if_pos rfl, Option.bind_some, if_neg (by decide)]
    · unfold aMapNew; rw [n1]; exact h
  have ct : k_checkTarget v1 v2 s = some (if pcode (a.2.2 x) < 0 then 0 else -2) := by
    unfold k_checkTarget
    rw [n2, if_neg (by decide), n3, ix_ofNat _ (by omega), P x hx, Option.bind_some]
    split <;> rfl
  cases hp : a.2.2 x with
  | some f =>
    have hf := (q3 x f hp).1
    have hneg : ¬ pcode (some f) < 0 := ofNat_nonneg (by omega)
    rw [hp, if_neg hneg] at ct
    refine ⟨s, ?_, ?_⟩
    · unfold k_mapNew aMapNew
      rw [ct, n1, Option.bind_some, if_neg (by decide)]
      dsimp only
      rw [hp]
    · unfold aMapNew; rw [n1]; dsimp only; rw [hp]; exact h
  | none =>
    rw [hp, if_pos (show pcode none < 0 by decide)] at ct
    rcases lowFree_ok h2 b2 with ⟨z1, z2⟩ | ⟨z1, z2, z3, z4, z5⟩
    · refine ⟨s, ?_, ?_⟩
      · unfold k_mapNew aMapNew
        rw [ct, n1, Option.bind_some, if_pos rfl, e2, if_pos ((w_zero ⟨m2, h2⟩).mpr z1)]
        dsimp only
        rw [hp]
        dsimp only
        rw [z2]
      · unfold aMapNew; rw [n1]; dsimp only; rw [hp]; dsimp only; rw [z2]; exact h
    · obtain ⟨f, hf⟩ : ∃ f, f = low m2 := ⟨_, rfl⟩
      rw [← hf] at z2 z3 z4 z5
      have hc0 : c f = 0 := by
        rcases Nat.eq_zero_or_pos (c f) with q | q
        · exact q
        · have := (q4 f z3).mp q; omega
      obtain ⟨u, eu, Fu, Gu, Ru⟩ := enter_ok G RS' z3 (x := 1) (by omega)
      have uA : ∀ k, k ≠ 0 → gA u k = gA s k := fun k hk => Fu.2.2.1 k (by simpa using hk)
      obtain ⟨w, hw⟩ : ∃ w, w = sA (sA u 1 ((gA s 1).set f v)) 2 ((gA s 2).set f 0) := ⟨_, rfl⟩
      have wA : ∀ k, k ≠ 1 → k ≠ 2 → gA w k = gA u k := fun k a b => by rw [hw, gA_sA, if_neg b, gA_sA, if_neg a]
      have w1 : gA w 1 = (gA s 1).set f v := by rw [hw]; simp [gA_sA]
      have w2 : gA w 2 = (gA s 2).set f 0 := by rw [hw]; simp [gA_sA]
      have Fw : Fx [] [] [1, 2, 3, 4, 5, 6] [] u w := by
        have F0 : Fx [] [] [1, 2, 3, 4, 5, 6] [] u u := Fx.refl ..
        rw [hw]; exact (F0.sA (by simp)).sA (by simp)
      have Gw : Geo w := Gu.same Fw (by rw [w1, List.length_set]; exact k1) (by rw [w2, List.length_set]; exact k2) (by rw [wA 3 (by decide) (by decide), uA 3 (by decide)]; exact l3) (by rw [wA 4 (by decide) (by decide), uA 4 (by decide)]; exact l4) (by rw [wA 5 (by decide) (by decide), uA 5 (by decide)]; exact l5) (by rw [wA 6 (by decide) (by decide), uA 6 (by decide)]; exact l6)
      have Cw : RC w c := fun g hg => by
        rw [w2]
        by_cases q : g = f
        · subst q; rw [List.getElem?_set_self (by omega), hc0]; rfl
        · rw [List.getElem?_set_ne (by omega)]; exact C g hg
      have Pw : RP w a.2.2 := fun z hz => by rw [wA 3 (by decide) (by decide), uA 3 (by decide)]; exact P z hz
      have Mw : RM w ls := fun g hg => by rw [wA 4 (by decide) (by decide), wA 5 (by decide) (by decide), wA 6 (by decide) (by decide), uA 4 (by decide), uA 5 (by decide), uA 6 (by decide)]; exact M g hg
      obtain ⟨s', es, Fs, Gs, Cs, Ps, Ms⟩ := attach_ok Gw Cw Pw Mw D hx z3 (fun g hg q => by rw [(q2 g x hg).mp q] at hp; cases hp)
      have am : aMapNew a v1 v2 v = (Int32.ofNat f, (aupd a.1 f 1, aupd a.2.1 f v, aupd a.2.2 x (some f))) := by
        unfold aMapNew; rw [n1]; dsimp only; rw [hp]; dsimp only; rw [z2]
      rw [am]
      refine ⟨s', ?_, aupd c f (c f + 1), aupd ls f (x :: ls f), Gs, ?_, ?_, Cs, Ps, Ms, con_map K z3 hx hx4 z4 hp v⟩
      · unfold k_mapNew
        rw [ct, Option.bind_some, if_pos rfl, e2, if_neg (fun q => z1 ((w_zero ⟨m2, h2⟩).mp q)), z5, inr_yes g0 z3, if_neg (by decide), show (1 : Int32) = Int32.ofNat 1 from rfl, eu, Option.bind_some, uA 1 (by decide), uA 2 (by decide), st_ofNat _ _ (by omega) (by omega), Option.bind_some, st_ofNat _ _ (by omega) (by omega), Option.bind_some, n3, ← hw, es, Option.bind_some]
      · obtain ⟨t1, t2, t3, t4⟩ := Ru
        have F2 : Fx [] [] [1, 2, 3, 4, 5, 6] [] u s' := Fw.trans (Fs.mono (by simp) (by simp) (by simp) (by simp))
        exact ⟨by rw [F2.2.2.1 0 (by simp)]; exact t1, by rw [F2.2.1 2 (by simp)]; exact t2, by rw [F2.2.1 3 (by simp)]; exact t3, by rw [F2.1 6 (by simp), F2.2.2.2 7 (by simp), F2.2.1 2 (by simp)]; exact t4⟩
      · intro g hg
        rw [Fs.2.2.1 1 (by simp), w1]
        dsimp only
        unfold aupd
        by_cases q : g = f
        · subst q; rw [if_pos rfl, List.getElem?_set_self (by omega)]
        · rw [if_neg q, List.getElem?_set_ne (by omega)]; exact V g hg
def aShare (a : Abs) (v1 v2 w1 w2 : Int32) : Int32 × Abs := match aSlot v1 v2 with
  | none => (-1, a)
  | some x => match aSlot w1 w2 with
    | none => (-1, a)
    | some y => match a.2.2 x with
      | some _ => (-2, a)
      | none => match a.2.2 y with
        | none => (-3, a)
        | some f => (Int32.ofNat f, (a.1, a.2.1, aupd a.2.2 x (some f)))
theorem con_share {a : Abs} {c : Nat → Nat} {ls : Nat → List Nat} (K : Con a c ls) {f x y : Nat} (hx : x < 64) (hx4 : x % 16 < 4) (hy : a.2.2 y = some f) (hp : a.2.2 x = none) : Con (a.1, a.2.1, aupd a.2.2 x (some f)) (aupd c f (c f + 1)) (aupd ls f (x :: ls f)) := by
  obtain ⟨D, k1, k2, k3, k4, k5⟩ := id K
  have hf := (k3 y f hy).1
  have hc : 0 < c f := by
    rw [k1 f hf]; exact List.length_pos_of_mem ((k2 f y hf).mpr hy)
  have nx : ∀ g, g < 8 → x ∉ ls g := fun g hg q => by rw [(k2 g x hg).mp q] at hp; cases hp
  refine ⟨⟨fun g hg => ?_, fun g g' z hg hg' q q' => ?_⟩, fun g hg => ?_, fun g z hg => ?_, fun z g q => ?_, fun g hg => ?_, k5⟩
  · unfold aupd
    by_cases e : g = f
    · rw [if_pos e]; exact List.nodup_cons.mpr ⟨nx f hf, D.1 f hf⟩
    · rw [if_neg e]; exact D.1 g hg
  · unfold aupd at q q'
    by_cases e : g = f
    · by_cases e' : g' = f
      · rw [e, e']
      · rw [if_pos e] at q; rw [if_neg e'] at q'
        rcases List.mem_cons.mp q with q | q
        · rw [q] at q'; exact absurd q' (nx g' hg')
        · rw [e]; exact D.2 f g' z hf hg' q q'
    · by_cases e' : g' = f
      · rw [if_neg e] at q; rw [if_pos e'] at q'
        rcases List.mem_cons.mp q' with q' | q'
        · rw [q'] at q; exact absurd q (nx g hg)
        · rw [e']; exact D.2 g f z hg hf q q'
      · rw [if_neg e] at q; rw [if_neg e'] at q'
        exact D.2 g g' z hg hg' q q'
  · unfold aupd
    by_cases e : g = f
    · rw [if_pos e, if_pos e, k1 f hf]; rfl
    · rw [if_neg e, if_neg e]; exact k1 g hg
  · dsimp only
    unfold aupd
    by_cases e : g = f
    · rw [if_pos e, List.mem_cons]
      by_cases r : z = x
      · simp [r, e]
      · rw [if_neg r, e]
        constructor
        · rintro (q | q)
          · exact absurd q r
          · exact (k2 f z hf).mp q
        · intro q; exact Or.inr ((k2 f z hf).mpr q)
    · rw [if_neg e]
      by_cases r : z = x
      · rw [if_pos r, r]
        constructor
        · intro q; exact absurd q (nx g hg)
        · intro q; exact absurd (Option.some.inj q).symm e
      · rw [if_neg r]; exact k2 g z hg
  · dsimp only at q
    unfold aupd at q
    by_cases r : z = x
    · rw [if_pos r] at q; cases q; rw [r]; exact ⟨hf, hx, hx4⟩
    · rw [if_neg r] at q; exact k3 z g q
  · dsimp only
    unfold aupd
    by_cases e : g = f
    · rw [if_pos e, e]
      exact ⟨fun _ => (k4 f hf).mp hc, fun _ => by omega⟩
    · rw [if_neg e]; exact k4 g hg
theorem share_ok {s : S} {a : Abs} (h : R s a) (v1 v2 w1 w2 : Int32) : ∃ s', k_share v1 v2 w1 w2 s = some ((aShare a v1 v2 w1 w2).1, s') ∧ R s' (aShare a v1 v2 w1 w2).2 := by
  obtain ⟨c, ls, G, RS', V, C, P, M, K⟩ := id h
  obtain ⟨g0, g1, l0, k1, k2, l3, l4, l5, l6, l7, g6⟩ := id G
  obtain ⟨D, q1, q2, q3, q4, q5⟩ := id K
  rcases page_cases g1 v1 v2 with ⟨n1, n2⟩ | ⟨x, n1, hx, hx4, n2, n3⟩
  · refine ⟨s, ?_, ?_⟩
    · unfold k_share aShare; rw [n1, n2, if_pos rfl]
    · unfold aShare; rw [n1]; exact h
  rcases page_cases g1 w1 w2 with ⟨m1, m2⟩ | ⟨y, m1, hy, hy4, m2, m3⟩
  · refine ⟨s, ?_, ?_⟩
    · unfold k_share aShare; rw [n1, m1, n2, m2, if_neg (by decide), if_pos rfl]
    · unfold aShare; rw [n1, m1]; exact h
  have st0 : k_share v1 v2 w1 w2 s = (if pcode (a.2.2 x) < 0 then (if k_frameInRange (pcode (a.2.2 y)) s = 0 then some (-3, s) else (k_attachPage (Int32.ofNat x) (pcode (a.2.2 y)) s).bind fun r79 => some (pcode (a.2.2 y), r79)) else some (-2, s)) := by
    unfold k_share
    rw [n2, m2, if_neg (by decide), if_neg (by decide), n3, m3, ix_ofNat _ (by omega), P x hx, Option.bind_some, ix_ofNat _ (by omega), P y hy, Option.bind_some]
  cases hp : a.2.2 x with
  | some f =>
    have hf := (q3 x f hp).1
    have hneg : ¬ pcode (some f) < 0 := ofNat_nonneg (by omega)
    have am : aShare a v1 v2 w1 w2 = (-2, a) := by unfold aShare; rw [n1, m1]; dsimp only; rw [hp]
    rw [am]
    exact ⟨s, by rw [st0, hp, if_neg hneg], h⟩
  | none =>
    rw [hp, if_pos (show pcode none < 0 by decide)] at st0
    cases hq : a.2.2 y with
    | none =>
      have am : aShare a v1 v2 w1 w2 = (-3, a) := by unfold aShare; rw [n1, m1]; dsimp only; rw [hp]; dsimp only; rw [hq]
      rw [am]
      refine ⟨s, ?_, h⟩
      rw [st0, hq, if_pos]
      unfold k_frameInRange
      rw [if_pos (show pcode none < 0 by decide)]
    | some f =>
      have hf := (q3 y f hq).1
      have am : aShare a v1 v2 w1 w2 = (Int32.ofNat f, (a.1, a.2.1, aupd a.2.2 x (some f))) := by unfold aShare; rw [n1, m1]; dsimp only; rw [hp]; dsimp only; rw [hq]
      rw [am]
      obtain ⟨s', es, Fs, Gs, Cs, Ps, Ms⟩ := attach_ok G C P M D hx hf (fun g hg q => by rw [(q2 g x hg).mp q] at hp; cases hp)
      refine ⟨s', ?_, aupd c f (c f + 1), aupd ls f (x :: ls f), Gs, ?_, ?_, Cs, Ps, Ms, con_share K hx hx4 hq hp⟩
      · rw [st0, hq]
        show (if k_frameInRange (Int32.ofNat f) s = 0 then _ else (k_attachPage (Int32.ofNat x) (Int32.ofNat f) s).bind fun r79 => some (Int32.ofNat f, r79)) = _
        rw [inr_yes g0 hf, if_neg (by decide), es, Option.bind_some]
      · obtain ⟨t1, t2, t3, t4⟩ := RS'
        exact ⟨by rw [Fs.2.2.1 0 (by simp)]; exact t1, by rw [Fs.2.1 2 (by simp)]; exact t2, by rw [Fs.2.1 3 (by simp)]; exact t3, by rw [Fs.1 6 (by simp), Fs.2.2.2 7 (by simp), Fs.2.1 2 (by simp)]; exact t4⟩
      · intro g hg; rw [Fs.2.2.1 1 (by simp)]; exact V g hg
theorem read_frame {s : S} {a : Abs} (h : R s a) (v1 v2 : Int32) : k_mappedFrame v1 v2 s = some (match aSlot v1 v2 with | none => -1 | some x => pcode (a.2.2 x)) := by
  obtain ⟨c, ls, G, RS', V, C, P, M, K⟩ := id h
  obtain ⟨g0, g1, l0, k1, k2, l3, l4, l5, l6, l7, g6⟩ := id G
  obtain ⟨D, q1, q2, q3, q4, q5⟩ := id K
  unfold k_mappedFrame
  rcases page_cases g1 v1 v2 with ⟨n1, n2⟩ | ⟨x, n1, hx, hx4, n2, n3⟩
  · rw [n1, n2, if_pos rfl]
  · rw [n1, n2, if_neg (by decide), n3, ix_ofNat _ (by omega), P x hx, Option.bind_some]
    dsimp only
    cases hp : a.2.2 x with
    | none =>
      have : k_frameInRange (pcode none) s = 0 := by unfold k_frameInRange; rw [if_pos (show pcode none < 0 by decide)]
      rw [if_pos this]; rfl
    | some f =>
      have hf := (q3 x f hp).1
      have : k_frameInRange (pcode (some f)) s = 1 := inr_yes g0 hf
      rw [this, if_neg (by decide)]
def others (pf : Nat → Option Nat) (x f : Nat) : Bool := (List.range 64).any fun y => decide (y ≠ x) && decide (pf y = some f)
def aUnmap (a : Abs) (v1 v2 : Int32) : Int32 × Abs := match aSlot v1 v2 with
  | none => (-1, a)
  | some x => match a.2.2 x with
    | none => (-3, a)
    | some f => (Int32.ofNat f, if others a.2.2 x f then (a.1, a.2.1, aupd a.2.2 x none) else (aupd a.1 f 0, aupd a.2.1 f 0, aupd a.2.2 x none))
theorem con_rm {a : Abs} {c : Nat → Nat} {ls : Nat → List Nat} (K : Con a c ls) {f x : Nat} {l1 l2 : List Nat} (hp : a.2.2 x = some f) (hl : ls f = l1 ++ x :: l2) : Dj (aupd ls f (l1 ++ l2)) ∧ (∀ g, g < 8 → (aupd c f (c f - 1)) g = ((aupd ls f (l1 ++ l2)) g).length) ∧ (∀ g z, g < 8 → (z ∈ (aupd ls f (l1 ++ l2)) g ↔ (aupd a.2.2 x none) z = some g)) ∧ (∀ z g, (aupd a.2.2 x none) z = some g → g < 8 ∧ z < 64 ∧ z % 16 < 4) := by
  obtain ⟨D, k1, k2, k3, k4, k5⟩ := id K
  have hf := (k3 x f hp).1
  have nd := D.1 f hf
  rw [hl] at nd
  have nx : x ∉ l1 ++ l2 := by
    have := (List.Perm.nodup_iff List.perm_middle).mp nd
    exact (List.nodup_cons.mp this).1
  have nd2 : (l1 ++ l2).Nodup := (List.nodup_cons.mp ((List.Perm.nodup_iff List.perm_middle).mp nd)).2
  have sub : ∀ z, z ∈ l1 ++ l2 ↔ (z ∈ ls f ∧ z ≠ x) := fun z => by
    rw [hl]
    constructor
    · intro q
      refine ⟨?_, fun e => nx (e ▸ q)⟩
      simp only [List.mem_append, List.mem_cons] at q ⊢
      rcases q with q | q
      · exact Or.inl q
      · exact Or.inr (Or.inr q)
    · rintro ⟨q, e⟩
      simp only [List.mem_append, List.mem_cons] at q ⊢
      rcases q with q | q | q
      · exact Or.inl q
      · exact absurd q e
      · exact Or.inr q
  refine ⟨⟨fun g hg => ?_, fun g g' z hg hg' q q' => ?_⟩, fun g hg => ?_, fun g z hg => ?_, fun z g q => ?_⟩
  · unfold aupd
    by_cases e : g = f
    · rw [if_pos e]; exact nd2
    · rw [if_neg e]; exact D.1 g hg
  · have m1 : z ∈ ls g := by
      unfold aupd at q
      by_cases e : g = f
      · rw [if_pos e] at q; rw [e]; exact ((sub z).mp q).1
      · rw [if_neg e] at q; exact q
    have m2 : z ∈ ls g' := by
      unfold aupd at q'
      by_cases e : g' = f
      · rw [if_pos e] at q'; rw [e]; exact ((sub z).mp q').1
      · rw [if_neg e] at q'; exact q'
    exact D.2 g g' z hg hg' m1 m2
  · unfold aupd
    by_cases e : g = f
    · rw [if_pos e, if_pos e, k1 f hf, hl]; simp
    · rw [if_neg e, if_neg e]; exact k1 g hg
  · unfold aupd
    by_cases e : g = f
    · rw [if_pos e, sub z]
      by_cases r : z = x
      · rw [if_pos r]
        exact ⟨fun q => absurd r q.2, fun q => nomatch q⟩
      · rw [if_neg r, e]
        exact ⟨fun q => (k2 f z hf).mp q.1, fun q => ⟨(k2 f z hf).mpr q, r⟩⟩
    · rw [if_neg e]
      by_cases r : z = x
      · rw [if_pos r, r]
        refine ⟨fun q => ?_, fun q => nomatch q⟩
        have := (k2 g x hg).mp q
        rw [hp] at this
        exact absurd (Option.some.inj this).symm e
      · rw [if_neg r]; exact k2 g z hg
  · unfold aupd at q
    by_cases r : z = x
    · rw [if_pos r] at q; cases q
    · rw [if_neg r] at q; exact k3 z g q
theorem others_iff {a : Abs} {c : Nat → Nat} {ls : Nat → List Nat} (K : Con a c ls) {f x : Nat} {l1 l2 : List Nat} (hp : a.2.2 x = some f) (hl : ls f = l1 ++ x :: l2) : others a.2.2 x f = true ↔ l1 ++ l2 ≠ [] := by
  obtain ⟨k0, k1, k2, k3⟩ := con_rm K hp hl
  obtain ⟨D, q1, q2, q3, q4, q5⟩ := id K
  have hf := (q3 x f hp).1
  have u : (aupd ls f (l1 ++ l2)) f = l1 ++ l2 := by unfold aupd; rw [if_pos rfl]
  unfold others
  rw [List.any_eq_true]
  constructor
  · rintro ⟨y, hy, q⟩ e
    simp only [Bool.and_eq_true, decide_eq_true_eq] at q
    have := (k2 f y hf).mpr (by unfold aupd; rw [if_neg q.1]; exact q.2)
    rw [u, e] at this
    cases this
  · intro e
    obtain ⟨y, r, er⟩ := List.exists_cons_of_ne_nil e
    have hy : y ∈ (aupd ls f (l1 ++ l2)) f := by rw [u, er]; exact List.mem_cons_self
    have h1 := (k2 f y hf).mp hy
    unfold aupd at h1
    by_cases w : y = x
    · rw [if_pos w] at h1; cases h1
    · rw [if_neg w] at h1
      exact ⟨y, List.mem_range.mpr (q3 y f h1).2.1, by simp [w, h1]⟩
theorem unmap_ok {s : S} {a : Abs} (h : R s a) (v1 v2 : Int32) : ∃ s', k_unmap v1 v2 s = some ((aUnmap a v1 v2).1, s') ∧ R s' (aUnmap a v1 v2).2 := by
  obtain ⟨c, ls, G, RS', V, C, P, M, K⟩ := id h
  obtain ⟨g0, g1, l0, k1, k2, l3, l4, l5, l6, l7, g6⟩ := id G
  obtain ⟨D, q1, q2, q3, q4, q5⟩ := id K
  rcases page_cases g1 v1 v2 with ⟨n1, n2⟩ | ⟨x, n1, hx, hx4, n2, n3⟩
  · refine ⟨s, ?_, ?_⟩
    · unfold k_unmap aUnmap; rw [n1, n2, if_pos rfl]
    · unfold aUnmap; rw [n1]; exact h
  cases hp : a.2.2 x with
  | none =>
    have am : aUnmap a v1 v2 = (-3, a) := by unfold aUnmap; rw [n1]; dsimp only; rw [hp]
    rw [am]
    refine ⟨s, ?_, h⟩
    unfold k_unmap
    rw [n2, if_neg (by decide), n3, ix_ofNat _ (by omega), P x hx, Option.bind_some, hp, if_pos (show pcode none < 0 by decide)]
  | some f =>
    have hf := (q3 x f hp).1
    have hneg : ¬ pcode (some f) < 0 := ofNat_nonneg (by omega)
    obtain ⟨l1, l2, hl⟩ := List.append_of_mem ((q2 f x hf).mpr hp)
    have lc : c f = (l1 ++ l2).length + 1 := by rw [q1 f hf, hl]; simp; omega
    obtain ⟨z1, z2, z3, z4⟩ := con_rm K hp hl
    have oi := others_iff K hp hl
    obtain ⟨u, eu, Fu, Gu, Cu, Pu, Mu⟩ := detach_ok G C P M D hx hf hp hl (by omega)
    have cl : c f ≤ 64 := by rw [q1 f hf]; exact nodup_len (D.1 f hf) (fun y hy => (q3 y f ((q2 f y hf).mp hy)).2.1)
    have Ru : RS u a.1 := by
      obtain ⟨t1, t2, t3, t4⟩ := RS'
      exact ⟨by rw [Fu.2.2.1 0 (by simp)]; exact t1, by rw [Fu.2.1 2 (by simp)]; exact t2, by rw [Fu.2.1 3 (by simp)]; exact t3, by rw [Fu.1 6 (by simp), Fu.2.2.2 7 (by simp), Fu.2.1 2 (by simp)]; exact t4⟩
    have Vu : RV u a.2.1 := fun g hg => by rw [Fu.2.2.1 1 (by simp)]; exact V g hg
    have k0 : k_unmap v1 v2 s = (if 0 < Int32.ofNat (c f - 1) then some (Int32.ofNat f, u) else (k_freeFrame (Int32.ofNat f) u).bind fun r62 => some (Int32.ofNat f, r62)) := by
      unfold k_unmap
      rw [n2, if_neg (by decide), n3, ix_ofNat _ (by omega), P x hx, Option.bind_some, hp, if_neg hneg, eu, Option.bind_some]
      dsimp only
      rw [inr_yes Gu.1 hf, if_neg (by decide), ix_ofNat _ (by omega), Cu f hf, Option.bind_some]
      unfold aupd
      rw [if_pos rfl]
    by_cases e : l1 ++ l2 = []
    · have ob : others a.2.2 x f = false := by
        cases ho : others a.2.2 x f with
        | false => rfl
        | true => exact absurd e (oi.mp ho)
      have am : aUnmap a v1 v2 = (Int32.ofNat f, (aupd a.1 f 0, aupd a.2.1 f 0, aupd a.2.2 x none)) := by unfold aUnmap; rw [n1]; dsimp only; rw [hp]; dsimp only; rw [ob]; rfl
      rw [am]
      have c1 : c f - 1 = 0 := by rw [lc, e]; rfl
      obtain ⟨s', es, Fs, Gs, Rs, Vs, Cs, Ps, Ms⟩ := free_ok Gu Ru Vu Cu Pu Mu hf (by unfold aupd; rw [if_pos rfl]; exact e)
      refine ⟨s', ?_, _, _, Gs, Rs, Vs, Cs, Ps, Ms, z1, ?_, z3, z4, ?_, ?_⟩
      · rw [k0, c1, if_neg (by decide), es, Option.bind_some]
      · intro g hg
        have := z2 g hg
        unfold aupd at this ⊢
        by_cases w : g = f
        · rw [if_pos w]; rw [if_pos w, if_pos w, e] at this; rw [if_pos w, e]; rfl
        · rw [if_neg w, if_neg w]; rw [if_neg w] at this; exact this
      · intro g hg
        dsimp only
        unfold aupd
        by_cases w : g = f
        · rw [if_pos w, if_pos w]; simp
        · rw [if_neg w, if_neg w, if_neg w]; exact q4 g hg
      · intro g hg q
        dsimp only at q ⊢
        unfold aupd at q ⊢
        by_cases w : g = f
        · rw [if_pos w]
        · rw [if_neg w] at q ⊢; exact q5 g hg q
    · have ob : others a.2.2 x f = true := oi.mpr e
      have am : aUnmap a v1 v2 = (Int32.ofNat f, (a.1, a.2.1, aupd a.2.2 x none)) := by unfold aUnmap; rw [n1]; dsimp only; rw [hp]; dsimp only; rw [ob]; rfl
      rw [am]
      have c1 : 0 < c f - 1 := by
        rw [lc]
        have := List.length_pos_iff.mpr e
        omega
      refine ⟨u, ?_, _, _, Gu, Ru, Vu, Cu, Pu, Mu, z1, z2, z3, z4, ?_, q5⟩
      · rw [k0, if_pos]
        rw [show (0 : Int32) = Int32.ofNat 0 from rfl, ofNat_lt (by omega) (by omega)]; exact c1
      · intro g hg
        dsimp only
        unfold aupd
        by_cases w : g = f
        · rw [if_pos w, w]
          exact ⟨fun _ => (q4 f hf).mp (by omega), fun _ => c1⟩
        · rw [if_neg w]; exact q4 g hg
def aFr (a : Abs) (v1 v2 : Int32) : Option Nat := match aSlot v1 v2 with
  | none => none
  | some x => a.2.2 x
theorem read_frame' {s : S} {a : Abs} (h : R s a) (v1 v2 : Int32) : k_mappedFrame v1 v2 s = some (pcode (aFr a v1 v2)) := by
  rw [read_frame h]; unfold aFr; cases aSlot v1 v2 <;> rfl
theorem aFr_lt {s : S} {a : Abs} (h : R s a) {v1 v2 : Int32} {f : Nat} (e : aFr a v1 v2 = some f) : f < 8 := by
  obtain ⟨c, ls, G, RS', V, C, P, M, D, q1, q2, q3, q4, q5⟩ := h
  unfold aFr at e
  cases hs : aSlot v1 v2 with
  | none => rw [hs] at e; cases e
  | some x => rw [hs] at e; exact (q3 x f e).1
theorem aFr_used {s : S} {a : Abs} (h : R s a) {v1 v2 : Int32} {f : Nat} (e : aFr a v1 v2 = some f) : a.1 f = 1 ∨ a.1 f = 2 := by
  have hf := aFr_lt h e
  obtain ⟨c, ls, G, RS', V, C, P, M, D, q1, q2, q3, q4, q5⟩ := h
  unfold aFr at e
  cases hs : aSlot v1 v2 with
  | none => rw [hs] at e; cases e
  | some x =>
    rw [hs] at e
    refine (q4 f hf).mp ?_
    rw [q1 f hf]
    exact List.length_pos_of_mem ((q2 f x hf).mpr e)
theorem frameOf_ok {s : S} {a : Abs} (h : R s a) (v1 v2 : Int32) : k_frameOf v1 v2 s = some (pcode (aFr a v1 v2)) := by
  unfold k_frameOf
  rw [read_frame' h, Option.bind_some]
  cases hq : aFr a v1 v2 with
  | none => rfl
  | some f => rw [if_neg (show ¬ pcode (some f) < 0 from ofNat_nonneg (by have := aFr_lt h hq; omega))]
def aRead (a : Abs) (v1 v2 : Int32) : Int32 := match aFr a v1 v2 with
  | none => 0
  | some f => a.2.1 f
theorem read_ok {s : S} {a : Abs} (h : R s a) (v1 v2 : Int32) : k_read v1 v2 s = some (aRead a v1 v2) := by
  unfold k_read aRead
  rw [read_frame' h, Option.bind_some]
  cases hq : aFr a v1 v2 with
  | none => rfl
  | some f =>
    have hf := aFr_lt h hq
    obtain ⟨c, ls, G, RS', V, C, P, M, K⟩ := h
    rw [if_neg (show ¬ pcode (some f) < 0 from ofNat_nonneg (by omega))]
    show (ix (gA s 1) (Int32.ofNat f)).bind _ = _
    rw [ix_ofNat _ (by omega), V f hf, Option.bind_some]
def aWrite (a : Abs) (v1 v2 v : Int32) : Int32 × Abs := match aFr a v1 v2 with
  | none => (0, a)
  | some f => (1, (a.1, aupd a.2.1 f v, a.2.2))
theorem write_ok {s : S} {a : Abs} (h : R s a) (v1 v2 v : Int32) : ∃ s', k_write v1 v2 v s = some ((aWrite a v1 v2 v).1, s') ∧ R s' (aWrite a v1 v2 v).2 := by
  unfold k_write aWrite
  rw [read_frame' h, Option.bind_some]
  cases hq : aFr a v1 v2 with
  | none => exact ⟨s, rfl, h⟩
  | some f =>
    have hf := aFr_lt h hq
    have hu := aFr_used h hq
    obtain ⟨c, ls, G, RS', V, C, P, M, K⟩ := h
    obtain ⟨g0, g1, l0, k1, k2, l3, l4, l5, l6, l7, g6⟩ := id G
    obtain ⟨D, q1, q2, q3, q4, q5⟩ := id K
    rw [if_neg (show ¬ pcode (some f) < 0 from ofNat_nonneg (by omega))]
    have F : Fx [] [] [1, 2, 3, 4, 5, 6] [] s (sA s 1 ((gA s 1).set f v)) := (Fx.refl ..).sA (by simp)
    have oA : ∀ k, k ≠ 1 → gA (sA s 1 ((gA s 1).set f v)) k = gA s k := fun k hk => by rw [gA_sA, if_neg hk]
    have o1 : gA (sA s 1 ((gA s 1).set f v)) 1 = (gA s 1).set f v := by rw [gA_sA, if_pos rfl]
    refine ⟨sA s 1 ((gA s 1).set f v), ?_, c, ls, G.same F ?_ ?_ ?_ ?_ ?_ ?_, ?_, ?_, ?_, ?_, ?_, D, q1, q2, q3, q4, ?_⟩
    · show (Jvm.AM.st (gA s 1) (Int32.ofNat f) v).bind _ = _
      rw [st_ofNat _ _ (by omega) (by omega), Option.bind_some]
    · rw [o1, List.length_set]; exact k1
    · rw [oA 2 (by decide)]; exact k2
    · rw [oA 3 (by decide)]; exact l3
    · rw [oA 4 (by decide)]; exact l4
    · rw [oA 5 (by decide)]; exact l5
    · rw [oA 6 (by decide)]; exact l6
    · obtain ⟨t1, t2, t3, t4⟩ := RS'
      exact ⟨by rw [oA 0 (by decide)]; exact t1, t2, t3, t4⟩
    · intro g hg
      rw [o1]
      dsimp only
      unfold aupd
      by_cases q : g = f
      · subst q; rw [if_pos rfl, List.getElem?_set_self (by omega)]
      · rw [if_neg q, List.getElem?_set_ne (by omega)]; exact V g hg
    · intro g hg; rw [oA 2 (by decide)]; exact C g hg
    · intro g hg; rw [oA 3 (by decide)]; exact P g hg
    · intro g hg; rw [oA 4 (by decide), oA 5 (by decide), oA 6 (by decide)]; exact M g hg
    · intro g hg q
      dsimp only at q ⊢
      unfold aupd
      by_cases w : g = f
      · subst w; omega
      · rw [if_neg w]; exact q5 g hg q
def aFrame (v : Int32) : Option Nat := if v < 0 then none else if v < 8 then some v.toNatClampNeg else none
theorem frame_cases {s : S} (g0 : gI s 0 = 8) (v : Int32) : (aFrame v = none ∧ k_frameInRange v s = 0) ∨ ∃ f, f < 8 ∧ v = Int32.ofNat f ∧ aFrame v = some f ∧ k_frameInRange v s = 1 := by
  unfold aFrame k_frameInRange
  rw [g0]
  by_cases q1 : v < 0
  · left; simp [q1]
  by_cases q2 : v < 8
  · right
    have := clamp_lt (n := 8) q1 q2 (by omega)
    exact ⟨v.toNatClampNeg, this, (eq_ofNat q1).1, by rw [if_neg q1, if_pos q2], by rw [if_neg q1, if_pos q2]⟩
  · left; simp [q1, q2]
theorem aFrame_nat {f : Nat} (hf : f < 8) : aFrame (Int32.ofNat f) = some f := by
  unfold aFrame
  rw [if_neg (ofNat_nonneg (by omega)), if_pos ((lt_lit (by omega)).mpr hf), ofNat_clamp (by omega)]
theorem enc_inj {x y : Nat} (hx : x < 1000) (hy : y < 1000) : Int32.ofNat x = Int32.ofNat y ↔ x = y := by
  constructor
  · intro e
    have := congrArg Int32.toInt e
    rw [ofNat_toInt (by omega), ofNat_toInt (by omega)] at this
    omega
  · intro e; rw [e]
def aTurn (a : Abs) (v : Int32) (p q : Nat) : Int32 × Abs := match aFrame v with
  | none => (0, a)
  | some f => if a.1 f = p then (1, (aupd a.1 f q, a.2)) else (0, a)
theorem turn_core {s : S} {a : Abs} {p q : Nat} (hp : p = 1 ∨ p = 2) (hq : q = 1 ∨ q = 2) (h : R s a) {f : Nat} (hf : f < 8) (e : a.1 f = p) : ∃ s', k_enterState (Int32.ofNat f) (Int32.ofNat q) s = some s' ∧ R s' (aupd a.1 f q, a.2) := by
  obtain ⟨c, ls, G, RS', V, C, P, M, K⟩ := h
  obtain ⟨D, q1, q2, q3, q4, q5⟩ := id K
  obtain ⟨u, eu, Fu, Gu, Ru⟩ := enter_ok G RS' hf (x := q) (by omega)
  refine ⟨u, eu, c, ls, Gu, Ru, ?_, ?_, ?_, ?_, D, q1, q2, q3, ?_, ?_⟩
  · intro g hg; rw [Fu.2.2.1 1 (by simp)]; exact V g hg
  · intro g hg; rw [Fu.2.2.1 2 (by simp)]; exact C g hg
  · intro g hg; rw [Fu.2.2.1 3 (by simp)]; exact P g hg
  · intro g hg; rw [Fu.2.2.1 4 (by simp), Fu.2.2.1 5 (by simp), Fu.2.2.1 6 (by simp)]; exact M g hg
  · intro g hg
    dsimp only
    unfold aupd
    by_cases w : g = f
    · subst w; rw [if_pos rfl, q4 g hg]; omega
    · rw [if_neg w]; exact q4 g hg
  · intro g hg z
    dsimp only at z ⊢
    unfold aupd at z
    by_cases w : g = f
    · rw [if_pos w] at z; omega
    · rw [if_neg w] at z; exact q5 g hg z
theorem pin_ok {s : S} {a : Abs} (h : R s a) (v : Int32) : ∃ s', k_pin v s = some ((aTurn a v 1 2).1, s') ∧ R s' (aTurn a v 1 2).2 := by
  have g0 : gI s 0 = 8 := by obtain ⟨c, ls, G, _⟩ := h; exact G.1
  have RS' : RS s a.1 := by obtain ⟨c, ls, G, RS', _⟩ := h; exact RS'
  unfold k_pin aTurn
  rcases frame_cases g0 v with ⟨n1, n2⟩ | ⟨f, hf, ev, n1, n2⟩
  · rw [n1, n2, if_pos rfl]; exact ⟨s, rfl, h⟩
  · obtain ⟨z1, z2⟩ := RS'.1 f hf
    rw [n1, n2, if_neg (by decide), ev, ix_ofNat _ (by omega), z2, Option.bind_some]
    dsimp only
    by_cases e : a.1 f = 1
    · obtain ⟨s', es, Rs⟩ := turn_core (p := 1) (q := 2) (Or.inl rfl) (Or.inr rfl) h hf e
      rw [if_pos (show Int32.ofNat (a.1 f) = 1 by rw [e]; rfl), if_pos e, show (2 : Int32) = Int32.ofNat 2 from rfl, es, Option.bind_some]
      exact ⟨s', rfl, Rs⟩
    · rw [if_neg (show ¬ Int32.ofNat (a.1 f) = 1 from fun q => e ((enc_inj (by omega) (by omega)).mp q)), if_neg e]
      exact ⟨s, rfl, h⟩
theorem unpin_ok {s : S} {a : Abs} (h : R s a) (v : Int32) : ∃ s', k_unpin v s = some ((aTurn a v 2 1).1, s') ∧ R s' (aTurn a v 2 1).2 := by
  have g0 : gI s 0 = 8 := by obtain ⟨c, ls, G, _⟩ := h; exact G.1
  have RS' : RS s a.1 := by obtain ⟨c, ls, G, RS', _⟩ := h; exact RS'
  unfold k_unpin aTurn
  rcases frame_cases g0 v with ⟨n1, n2⟩ | ⟨f, hf, ev, n1, n2⟩
  · rw [n1, n2, if_pos rfl]; exact ⟨s, rfl, h⟩
  · obtain ⟨z1, z2⟩ := RS'.1 f hf
    rw [n1, n2, if_neg (by decide), ev, ix_ofNat _ (by omega), z2, Option.bind_some]
    dsimp only
    by_cases e : a.1 f = 2
    · obtain ⟨s', es, Rs⟩ := turn_core (p := 2) (q := 1) (Or.inr rfl) (Or.inl rfl) h hf e
      rw [if_pos (show Int32.ofNat (a.1 f) = 2 by rw [e]; rfl), if_pos e, show (1 : Int32) = Int32.ofNat 1 from rfl, es, Option.bind_some]
      exact ⟨s', rfl, Rs⟩
    · rw [if_neg (show ¬ Int32.ofNat (a.1 f) = 2 from fun q => e ((enc_inj (by omega) (by omega)).mp q)), if_neg e]
      exact ⟨s, rfl, h⟩
theorem con_empty {a : Abs} {c : Nat → Nat} {ls : Nat → List Nat} (K : Con a c ls) {f : Nat} (hf : f < 8) (e : a.1 f = 0 ∨ a.1 f = 3) : ls f = [] ∧ c f = 0 := by
  obtain ⟨D, q1, q2, q3, q4, q5⟩ := id K
  have hc : c f = 0 := by
    rcases Nat.eq_zero_or_pos (c f) with q | q
    · exact q
    · have := (q4 f hf).mp q; omega
  refine ⟨?_, hc⟩
  rw [q1 f hf] at hc
  exact List.length_eq_zero_iff.mp hc
theorem con_wipe {a : Abs} {c : Nat → Nat} {ls : Nat → List Nat} (K : Con a c ls) {f x : Nat} (hf : f < 8) (e : a.1 f = 0 ∨ a.1 f = 3) (hx : x = 0 ∨ x = 3) : Con (aupd a.1 f x, aupd a.2.1 f 0, a.2.2) (aupd c f 0) ls := by
  obtain ⟨z1, z2⟩ := con_empty K hf e
  obtain ⟨D, q1, q2, q3, q4, q5⟩ := id K
  have uc : aupd c f 0 = c := by rw [← z2]; exact upd_self c f
  rw [uc]
  refine ⟨D, q1, q2, q3, ?_, ?_⟩
  · intro g hg
    dsimp only
    unfold aupd
    by_cases w : g = f
    · subst w; rw [if_pos rfl]; omega
    · rw [if_neg w]; exact q4 g hg
  · intro g hg z
    dsimp only at z ⊢
    unfold aupd at z ⊢
    by_cases w : g = f
    · rw [if_pos w]
    · rw [if_neg w] at z ⊢; exact q5 g hg z
def aRelease (a : Abs) (v : Int32) : Int32 × Abs := match aFrame v with
  | none => (0, a)
  | some f => if a.1 f = 3 then (1, (aupd a.1 f 0, aupd a.2.1 f 0, a.2.2)) else (0, a)
theorem release_ok {s : S} {a : Abs} (h : R s a) (v : Int32) : ∃ s', k_release v s = some ((aRelease a v).1, s') ∧ R s' (aRelease a v).2 := by
  obtain ⟨c, ls, G, RS', V, C, P, M, K⟩ := id h
  have g0 : gI s 0 = 8 := G.1
  unfold k_release aRelease
  rcases frame_cases g0 v with ⟨n1, n2⟩ | ⟨f, hf, ev, n1, n2⟩
  · rw [n1, n2, if_pos rfl]; exact ⟨s, rfl, h⟩
  · obtain ⟨z1, z2⟩ := RS'.1 f hf
    rw [n1, n2, if_neg (by decide), ev, ix_ofNat _ (by omega), z2, Option.bind_some]
    dsimp only
    by_cases e : a.1 f = 3
    · obtain ⟨y1, y2⟩ := con_empty K hf (Or.inr e)
      obtain ⟨s', es, Fs, Gs, Rs, Vs, Cs, Ps, Ms⟩ := free_ok G RS' V C P M hf y1
      rw [if_pos (show Int32.ofNat (a.1 f) = 3 by rw [e]; rfl), if_pos e, es, Option.bind_some]
      exact ⟨s', rfl, _, _, Gs, Rs, Vs, Cs, Ps, Ms, con_wipe K hf (Or.inr e) (Or.inl rfl)⟩
    · rw [if_neg (show ¬ Int32.ofNat (a.1 f) = 3 from fun q => e ((enc_inj (by omega) (by omega)).mp q)), if_neg e]
      exact ⟨s, rfl, h⟩
def run (m : Nat) : Nat → Nat
  | 0 => m
  | k + 1 => (List.range 8).foldl (fun r s => if s % 2 ^ (k + 1) = 0 ∧ (run m k).testBit s ∧ (run m k).testBit (s + 2 ^ k) then r + 2 ^ s else r) 0
theorem w_lev : ∀ m : Fin 256, ∀ k : Fin 7, lev (Int64.ofNat m.val) k.val = Int64.ofNat (run m.val k.val) ∧ run m.val k.val < 256 ∧ ∀ s : Fin 8, (run m.val k.val).testBit s.val = (decide (s.val % 2 ^ k.val = 0) && (List.range (2 ^ k.val)).all fun j => decide (s.val + j < 8) && m.val.testBit (s.val + j)) := by decide +kernel
def runAt (st : Nat → Nat) (k s : Nat) : Bool := decide (s % 2 ^ k = 0) && (List.range (2 ^ k)).all fun j => decide (s + j < 8) && decide (st (s + j) = 0)
def lowRun (st : Nat → Nat) (k : Nat) : Option Nat := (List.range 8).find? fun s => runAt st k s
theorem refresh_ok {s : S} {a : Abs} (h : R s a) : ∃ s', k_refreshRuns s = some s' ∧ R s' a ∧ gL s' 2 = gL s 2 ∧ ∀ k, k < 7 → (gB s' 7)[k]? = some (lev (gL s 2) k) := by
  obtain ⟨c, ls, G, RS', V, C, P, M, K⟩ := id h
  obtain ⟨g0, g1, l0, k1, k2, l3, l4, l5, l6, l7, g6⟩ := id G
  obtain ⟨t1, t2, t3, t4⟩ := id RS'
  rcases g6 with q | q
  · refine ⟨s, ?_, h, rfl, t4 q⟩
    unfold k_refreshRuns; rw [if_pos q]
  · obtain ⟨t, e, F, lv, i6, lt⟩ := own_runs s q l7
    have oA : ∀ k, gA t k = gA s k := fun k => F.2.2.1 k (by simp)
    refine ⟨t, e, ⟨c, ls, ⟨by rw [F.1 0 (by simp)]; exact g0, by rw [F.1 1 (by simp)]; exact g1, by rw [oA]; exact l0, by rw [oA]; exact k1, by rw [oA]; exact k2, by rw [oA]; exact l3, by rw [oA]; exact l4, by rw [oA]; exact l5, by rw [oA]; exact l6, lt, Or.inl i6⟩, ⟨by rw [oA]; exact t1, by rw [F.2.1 2 (by simp)]; exact t2, by rw [F.2.1 3 (by simp)]; exact t3, by rw [F.2.1 2 (by simp)]; exact fun _ => lv⟩, fun g hg => by rw [oA]; exact V g hg, fun g hg => by rw [oA]; exact C g hg, fun g hg => by rw [oA]; exact P g hg, fun g hg => by rw [oA, oA, oA]; exact M g hg, K⟩, F.2.1 2 (by simp), lv⟩
theorem lowRun_ok {m : Nat} (hm : m < 256) {st : Nat → Nat} (b : ∀ f, f < 8 → m.testBit f = decide (st f = 0)) {k : Nat} (hk : k < 7) : (lev (Int64.ofNat m) k = 0 ∧ lowRun st k = none) ∨ ∃ f, f < 8 ∧ lev (Int64.ofNat m) k ≠ 0 ∧ lowRun st k = some f ∧ runAt st k f = true ∧ k_lowestBit (lev (Int64.ofNat m) k) = Int32.ofNat f := by
  obtain ⟨w1, w2, w3⟩ := w_lev ⟨m, hm⟩ ⟨k, hk⟩
  dsimp only at w1 w2 w3
  have w4 : ∀ f, f < 8 → (run m k).testBit f = runAt st k f := fun f hf => by
    rw [w3 ⟨f, hf⟩]
    unfold runAt
    dsimp only
    congr 1
    apply List.all_congr rfl
    intro j
    by_cases q : f + j < 8
    · rw [b _ q]
    · simp [q]
  rw [w1]
  by_cases q : run m k = 0
  · left
    refine ⟨(w_zero ⟨_, w2⟩).mpr q, ?_⟩
    unfold lowRun
    rw [List.find?_eq_none]
    intro f hf
    have := w4 f (List.mem_range.mp hf)
    rw [q, Nat.zero_testBit] at this
    rw [← this]; simp
  · right
    obtain ⟨v1, v2, v3, v4⟩ := w_low ⟨run m k, w2⟩ q
    dsimp only at v1 v2 v3 v4
    refine ⟨low (run m k), v3, fun e => q ((w_zero ⟨_, w2⟩).mp e), ?_, by rw [← w4 _ v3]; exact v2, v1⟩
    unfold lowRun
    rw [List.find?_range_eq_some]
    refine ⟨by rw [← w4 _ v3]; exact v2, by simpa using v3, ?_⟩
    intro j hj
    have := w4 j (by omega)
    rw [v4 ⟨j, by omega⟩ hj] at this
    rw [← this]; rfl
def resv (st : Nat → Nat) (val : Nat → Int32) (f : Nat) : Nat → (Nat → Nat) × (Nat → Int32)
  | 0 => (st, val)
  | n + 1 => (aupd (resv st val f n).1 (f + n) 3, aupd (resv st val f n).2 (f + n) 0)
theorem resv_st (st : Nat → Nat) (val : Nat → Int32) (f : Nat) : ∀ n g, (resv st val f n).1 g = if f ≤ g ∧ g < f + n then 3 else st g
  | 0, g => by rw [if_neg (by omega)]; rfl
  | n + 1, g => by
    show (aupd (resv st val f n).1 (f + n) 3) g = _
    unfold aupd
    by_cases q : g = f + n
    · rw [if_pos q, if_pos (by omega)]
    · rw [if_neg q, resv_st st val f n g]
      by_cases w : f ≤ g ∧ g < f + n
      · rw [if_pos w, if_pos (by omega)]
      · rw [if_neg w, if_neg (by omega)]
theorem reserve_loop {a : Abs} {f n : Nat} (hn : f + n ≤ 8) (e : ∀ j, j < n → a.1 (f + j) = 0) : ∀ m i s N, i + m = n → m < N → R s ((resv a.1 a.2.1 f i).1, (resv a.1 a.2.1 f i).2, a.2.2) → ∃ s', k_reserveRun_7 N (Int32.ofNat f) (Int32.ofNat n) (Int32.ofNat i) s = some s' ∧ R s' ((resv a.1 a.2.1 f n).1, (resv a.1 a.2.1 f n).2, a.2.2)
  | m, i, s, 0, _, h, _ => by omega
  | 0, i, s, N + 1, hi, _, h => by
    have : i = n := by omega
    subst this
    refine ⟨s, ?_, h⟩
    rw [k_reserveRun_7, if_neg (by rw [ofNat_lt (by omega) (by omega)]; omega)]
  | m + 1, i, s, N + 1, hi, hN, h => by
    obtain ⟨c, ls, G, RS', V, C, P, M, K⟩ := id h
    have hst : (resv a.1 a.2.1 f i).1 (f + i) = 0 := by
      rw [resv_st, if_neg (by omega)]; exact e i (by omega)
    obtain ⟨y1, y2⟩ := con_empty K (f := f + i) (by omega) (Or.inl hst)
    obtain ⟨s', es, Fs, Gs, Rs, Vs, Cs, Ps, Ms⟩ := reserve_ok G RS' V C P M (f := f + i) (by omega) y1
    obtain ⟨s2, e2, R2⟩ := reserve_loop hn e m (i + 1) s' N (by omega) (by omega) ⟨_, _, Gs, Rs, Vs, Cs, Ps, Ms, con_wipe K (by omega) (Or.inl hst) (Or.inr rfl)⟩
    refine ⟨s2, ?_, R2⟩
    rw [k_reserveRun_7, if_pos (by rw [ofNat_lt (by omega) (by omega)]; omega), if_pos ((lt_lit (m := 64) (by omega) (by decide)).mpr (by omega)), ofNat_add', es, Option.bind_some, ofNat_succ]
    exact e2
def aAlloc (a : Abs) (v : Int32) : Int32 × Abs := if v < 0 then (-1, a) else if 6 < v then (-1, a) else match lowRun a.1 v.toNatClampNeg with
  | none => (-4, a)
  | some f => (Int32.ofNat f, ((resv a.1 a.2.1 f (2 ^ v.toNatClampNeg)).1, (resv a.1 a.2.1 f (2 ^ v.toNatClampNeg)).2, a.2.2))
theorem runAt_iff {st : Nat → Nat} {k f : Nat} (h : runAt st k f = true) : f % 2 ^ k = 0 ∧ f + 2 ^ k ≤ 8 ∧ ∀ j, j < 2 ^ k → st (f + j) = 0 := by
  unfold runAt at h
  simp only [Bool.and_eq_true, decide_eq_true_eq, List.all_eq_true, List.mem_range] at h
  have p : 0 < 2 ^ k := Nat.two_pow_pos k
  refine ⟨h.1, ?_, fun j hj => (h.2 j hj).2⟩
  have := (h.2 (2 ^ k - 1) (by omega)).1
  omega
theorem pow_sh : ∀ k : Fin 7, (1 : Int32) <<< (Int32.ofNat k.val &&& 31) = Int32.ofNat (2 ^ k.val) := by decide +kernel
theorem alloc_ok {s : S} {a : Abs} (h : R s a) (v : Int32) : ∃ s', k_allocBlock v s = some ((aAlloc a v).1, s') ∧ R s' (aAlloc a v).2 := by
  unfold k_allocBlock aAlloc
  by_cases q0 : v < 0
  · rw [if_pos q0, if_pos q0]; exact ⟨s, rfl, h⟩
  rw [if_neg q0, if_neg q0]
  by_cases q1 : 6 < v
  · rw [if_pos q1, if_pos q1]; exact ⟨s, rfl, h⟩
  rw [if_neg q1, if_neg q1]
  obtain ⟨k, hk⟩ : ∃ k, k = v.toNatClampNeg := ⟨_, rfl⟩
  have ev : v = Int32.ofNat k := by rw [hk]; exact (eq_ofNat q0).1
  have k7 : k < 7 := by
    have := (eq_ofNat q0).2
    rw [← hk] at this
    rw [ev, show (6 : Int32) = Int32.ofNat 6 from rfl, ofNat_lt (by omega) (by omega)] at q1
    omega
  rw [← hk]
  obtain ⟨t, et, Rt, L2, lv⟩ := refresh_ok h
  have fr : k_freeRunsOfOrder v s = some (lev (gL s 2) k, t) := by
    unfold k_freeRunsOfOrder
    rw [if_neg q0, if_neg q1, et, Option.bind_some, ev, ix_ofNat _ (by omega), lv k k7, Option.bind_some]
  rw [fr, Option.bind_some]
  dsimp only
  obtain ⟨c, ls, G, RS', _⟩ := id Rt
  obtain ⟨t1, ⟨m, hm, em, bm⟩, t3, t4⟩ := id RS'
  rw [← L2, em]
  rcases lowRun_ok hm bm k7 with ⟨z1, z2⟩ | ⟨f, hf, z1, z2, z3, z4⟩
  · rw [if_pos z1, z2]; exact ⟨t, rfl, Rt⟩
  · obtain ⟨y1, y2, y3⟩ := runAt_iff z3
    rw [if_neg z1, z2, z4, inr_yes G.1 hf, if_neg (by decide)]
    dsimp only
    obtain ⟨s', es, Rs⟩ := reserve_loop y2 y3 (2 ^ k) 0 t BIG (by omega) (by unfold BIG; omega) Rt
    unfold k_reserveRun
    rw [ev, pow_sh ⟨k, k7⟩]
    dsimp only
    rw [show (0 : Int32) = Int32.ofNat 0 from rfl, es, Option.bind_some]
    exact ⟨s', rfl, Rs⟩
theorem w_and (a b : Nat) : Int64.ofNat a &&& Int64.ofNat b = Int64.ofNat (a &&& b) := by
  apply Int64.toBitVec_inj.mp
  simp
theorem and_lt {a b : Nat} (h : a < 256) : a &&& b < 256 := Nat.lt_of_le_of_lt Nat.and_le_left h
theorem R.fx {s t : S} {a : Abs} (h : R s a) (F : Fx [7, 8, 9, 10] [] [] [] s t) : R t a := by
  obtain ⟨c, ls, G, RS', V, C, P, M, K⟩ := h
  obtain ⟨g0, g1, l0, k1, k2, l3, l4, l5, l6, l7, g6⟩ := id G
  obtain ⟨t1, t2, t3, t4⟩ := id RS'
  have oA : ∀ k, gA t k = gA s k := fun k => F.2.2.1 k (by simp)
  have oB : ∀ k, gB t k = gB s k := fun k => F.2.2.2 k (by simp)
  have oL : ∀ k, gL t k = gL s k := fun k => F.2.1 k (by simp)
  exact ⟨c, ls, ⟨by rw [F.1 0 (by simp)]; exact g0, by rw [F.1 1 (by simp)]; exact g1, by rw [oA]; exact l0, by rw [oA]; exact k1, by rw [oA]; exact k2, by rw [oA]; exact l3, by rw [oA]; exact l4, by rw [oA]; exact l5, by rw [oA]; exact l6, by rw [oB]; exact l7, by rw [F.1 6 (by simp)]; exact g6⟩, ⟨by rw [oA]; exact t1, by rw [oL]; exact t2, by rw [oL]; exact t3, by rw [oL, oB, F.1 6 (by simp)]; exact t4⟩, fun g hg => by rw [oA]; exact V g hg, fun g hg => by rw [oA]; exact C g hg, fun g hg => by rw [oA]; exact P g hg, fun g hg => by rw [oA, oA, oA]; exact M g hg, K⟩
def mig (st : Nat → Nat) (lo hi : Nat) : Nat := if lo < hi then ((List.range 8).find? fun f => decide (lo ≤ f) && decide (f < hi) && decide (st f = 1)).getD hi else lo
def fret (st : Nat → Nat) (lo hi : Nat) : Nat := if lo < hi then (((List.range 8).find? fun i => decide (lo < 7 - i) && decide (7 - i ≤ hi) && decide (st (7 - i) = 0)).map fun i => 7 - i).getD lo else hi
theorem mig_spec (st : Nat → Nat) {lo hi : Nat} (h : lo < hi) (hh : hi ≤ 8) : (mig st lo hi = hi ∧ ∀ f, lo ≤ f → f < hi → st f ≠ 1) ∨ (lo ≤ mig st lo hi ∧ mig st lo hi < hi ∧ st (mig st lo hi) = 1 ∧ ∀ f, lo ≤ f → f < mig st lo hi → st f ≠ 1) := by
  unfold mig
  rw [if_pos h]
  cases e : (List.range 8).find? fun f => decide (lo ≤ f) && decide (f < hi) && decide (st f = 1) with
  | none =>
    left
    rw [List.find?_range_eq_none] at e
    refine ⟨rfl, fun f h1 h2 q => ?_⟩
    have := e f (by omega)
    simp [h1, h2, q] at this
  | some m =>
    right
    rw [List.find?_range_eq_some] at e
    obtain ⟨e1, e2, e3⟩ := e
    simp only [Bool.and_eq_true, decide_eq_true_eq] at e1
    refine ⟨e1.1.1, e1.1.2, e1.2, fun f h1 h2 q => ?_⟩
    have h2' : f < m := h2
    have := e3 f h2'
    simp [h1, q] at this
    omega
theorem ret_spec (st : Nat → Nat) {lo hi : Nat} (h : lo < hi) (hh : hi ≤ 7) : (fret st lo hi = lo ∧ ∀ f, lo < f → f ≤ hi → st f ≠ 0) ∨ (lo < fret st lo hi ∧ fret st lo hi ≤ hi ∧ st (fret st lo hi) = 0 ∧ ∀ f, fret st lo hi < f → f ≤ hi → st f ≠ 0) := by
  unfold fret
  rw [if_pos h]
  cases e : (List.range 8).find? fun i => decide (lo < 7 - i) && decide (7 - i ≤ hi) && decide (st (7 - i) = 0) with
  | none =>
    left
    rw [List.find?_range_eq_none] at e
    refine ⟨rfl, fun f h1 h2 q => ?_⟩
    have := e (7 - f) (by omega)
    rw [show 7 - (7 - f) = f by omega] at this
    simp [h1, h2, q] at this
  | some m =>
    right
    rw [List.find?_range_eq_some] at e
    obtain ⟨e1, e2, e3⟩ := e
    have e2' := List.mem_range.mp e2
    simp only [Bool.and_eq_true, decide_eq_true_eq] at e1
    refine ⟨e1.1.1, e1.1.2, e1.2, fun f h1 h2 q => ?_⟩
    have h1' : 7 - m < f := h1
    have := e3 (7 - f) (by omega)
    rw [show 7 - (7 - f) = f by omega] at this
    simp [h2, q] at this
    omega
theorem adv_ok {s : S} {a : Abs} (h : R s a) {lo hi : Nat} (hl : lo ≤ 8) (hh : hi ≤ 7) (e9 : gI s 9 = Int32.ofNat lo) (e10 : gI s 10 = Int32.ofNat hi) : ∃ t, k_advanceMigrateScanner s = t ∧ Fx [7, 8, 9, 10] [] [] [] s t ∧ gI t 9 = Int32.ofNat (mig a.1 lo hi) ∧ gI t 10 = gI s 10 ∧ gI t 8 = gI s 8 ∧ gI t 7 = gI s 7 := by
  obtain ⟨c, ls, G, RS', _⟩ := h
  obtain ⟨t1, t2, ⟨m, hm, em, bm⟩, t4⟩ := RS'
  unfold k_advanceMigrateScanner
  rw [e9, e10]
  by_cases q : lo < hi
  · rw [if_pos ((ofNat_lt (by omega) (by omega)).mpr q)]
    obtain ⟨w1, w2, w3⟩ := w_rng ⟨lo, by omega⟩ ⟨hi, by omega⟩
    dsimp only at w1 w2 w3
    rw [w1, em, w_and]
    have hc : m &&& rng lo hi < 256 := and_lt hm
    have bits : ∀ f, f < 8 → (m &&& rng lo hi).testBit f = (decide (a.1 f = 1) && decide (lo ≤ f ∧ f < hi)) := fun f hf => by
      rw [Nat.testBit_and, bm f hf, w3 ⟨f, hf⟩]
    by_cases z : m &&& rng lo hi = 0
    · rw [if_pos ((w_zero ⟨_, hc⟩).mpr z)]
      refine ⟨_, rfl, (Fx.refl ..).sI (by simp), ?_, by simp [gI_sI, e10], by simp [gI_sI], by simp [gI_sI]⟩
      rw [gI_sI, if_pos rfl]
      rcases mig_spec a.1 q (by omega) with ⟨y, _⟩ | ⟨y1, y2, y3, _⟩
      · rw [y]
      · have := bits (mig a.1 lo hi) (by omega)
        rw [z, Nat.zero_testBit] at this
        simp [y1, y2, y3] at this
    · rw [if_neg (fun e => z ((w_zero ⟨_, hc⟩).mp e))]
      obtain ⟨v1, v2, v3, v4⟩ := w_low ⟨_, hc⟩ z
      dsimp only at v1 v2 v3 v4
      rw [v1]
      refine ⟨_, rfl, (Fx.refl ..).sI (by simp), ?_, by simp [gI_sI, e10], by simp [gI_sI], by simp [gI_sI]⟩
      rw [gI_sI, if_pos rfl]
      congr 1
      have b1 := bits _ v3
      rw [v2] at b1
      simp only [Bool.true_eq, Bool.and_eq_true, decide_eq_true_eq] at b1
      rcases mig_spec a.1 q (by omega) with ⟨y, y'⟩ | ⟨y1, y2, y3, y4⟩
      · exact absurd b1.1 (y' _ b1.2.1 b1.2.2)
      · rcases Nat.lt_trichotomy (low (m &&& rng lo hi)) (mig a.1 lo hi) with w | w | w
        · exact absurd b1.1 (y4 _ b1.2.1 w)
        · exact w
        · have b2 := bits (mig a.1 lo hi) (by omega)
          rw [v4 ⟨mig a.1 lo hi, by omega⟩ w] at b2
          simp [y1, y2, y3] at b2
  · rw [if_neg (fun e => q ((ofNat_lt (by omega) (by omega)).mp e))]
    refine ⟨s, rfl, Fx.refl .., ?_, e10, rfl, rfl⟩
    unfold mig; rw [if_neg q]; exact e9
theorem ret_ok {s : S} {a : Abs} (h : R s a) {lo hi : Nat} (hl : lo ≤ 8) (hh : hi ≤ 7) (e9 : gI s 9 = Int32.ofNat lo) (e10 : gI s 10 = Int32.ofNat hi) : ∃ t, k_retreatFreeScanner s = t ∧ Fx [7, 8, 9, 10] [] [] [] s t ∧ gI t 10 = Int32.ofNat (fret a.1 lo hi) ∧ gI t 9 = gI s 9 ∧ gI t 8 = gI s 8 ∧ gI t 7 = gI s 7 := by
  obtain ⟨c, ls, G, RS', _⟩ := h
  obtain ⟨t1, ⟨m, hm, em, bm⟩, t3, t4⟩ := RS'
  unfold k_retreatFreeScanner
  rw [e9, e10]
  by_cases q : lo < hi
  · rw [if_pos ((ofNat_lt (by omega) (by omega)).mpr q), ofNat_succ, ofNat_succ]
    obtain ⟨w1, w2, w3⟩ := w_rng ⟨lo + 1, by omega⟩ ⟨hi + 1, by omega⟩
    dsimp only at w1 w2 w3
    rw [w1, em, w_and]
    have hc : m &&& rng (lo + 1) (hi + 1) < 256 := and_lt hm
    have bits : ∀ f, f < 8 → (m &&& rng (lo + 1) (hi + 1)).testBit f = (decide (a.1 f = 0) && decide (lo + 1 ≤ f ∧ f < hi + 1)) := fun f hf => by
      rw [Nat.testBit_and, bm f hf, w3 ⟨f, hf⟩]
    by_cases z : m &&& rng (lo + 1) (hi + 1) = 0
    · rw [if_pos ((w_zero ⟨_, hc⟩).mpr z)]
      refine ⟨_, rfl, (Fx.refl ..).sI (by simp), ?_, by simp [gI_sI, e9], by simp [gI_sI], by simp [gI_sI]⟩
      rw [gI_sI, if_pos rfl]
      rcases ret_spec a.1 q hh with ⟨y, _⟩ | ⟨y1, y2, y3, _⟩
      · rw [y]
      · have := bits (fret a.1 lo hi) (by omega)
        rw [z, Nat.zero_testBit] at this
        simp [y3] at this
        omega
    · rw [if_neg (fun e => z ((w_zero ⟨_, hc⟩).mp e))]
      obtain ⟨v1, v2, v3, v4⟩ := w_high ⟨_, hc⟩ z
      dsimp only at v1 v2 v3 v4
      rw [v1]
      refine ⟨_, rfl, (Fx.refl ..).sI (by simp), ?_, by simp [gI_sI, e9], by simp [gI_sI], by simp [gI_sI]⟩
      rw [gI_sI, if_pos rfl]
      congr 1
      have b1 := bits _ v3
      rw [v2] at b1
      simp only [Bool.true_eq, Bool.and_eq_true, decide_eq_true_eq] at b1
      rcases ret_spec a.1 q hh with ⟨y, y'⟩ | ⟨y1, y2, y3, y4⟩
      · exact absurd b1.1 (y' _ (by omega) (by omega))
      · rcases Nat.lt_trichotomy (fret a.1 lo hi) (high (m &&& rng (lo + 1) (hi + 1))) with w | w | w
        · exact absurd b1.1 (y4 _ w (by omega))
        · exact w.symm
        · have b2 := bits (fret a.1 lo hi) (by omega)
          rw [v4 ⟨fret a.1 lo hi, by omega⟩ w] at b2
          simp [y3] at b2
          omega
  · rw [if_neg (fun e => q ((ofNat_lt (by omega) (by omega)).mp e))]
    refine ⟨s, rfl, Fx.refl .., ?_, e9, rfl, rfl⟩
    unfold fret; rw [if_neg q]; exact e10
def aStep (a : Abs) (m f : Nat) : Abs := (aupd (aupd a.1 f 1) m 0, aupd (aupd a.2.1 f (a.2.1 m)) m 0, fun x => if a.2.2 x = some m then some f else a.2.2 x)
theorem con_step {a : Abs} {c : Nat → Nat} {ls : Nat → List Nat} (K : Con a c ls) {m f : Nat} (hm : m < 8) (hf : f < 8) (sm : a.1 m = 1) (sf : a.1 f = 0) : Con (aStep a m f) (aupd (aupd c f (c m)) m 0) (aupd (aupd ls f (ls m)) m []) := by
  obtain ⟨y1, y2⟩ := con_empty K hf (Or.inl sf)
  obtain ⟨D, q1, q2, q3, q4, q5⟩ := id K
  have ne : m ≠ f := fun e => by rw [e, sf] at sm; cases sm
  have cases3 : ∀ g, (g = m ∧ (aupd (aupd ls f (ls m)) m []) g = [] ∧ (aupd (aupd c f (c m)) m 0) g = 0) ∨ (g = f ∧ (aupd (aupd ls f (ls m)) m []) g = ls m ∧ (aupd (aupd c f (c m)) m 0) g = c m) ∨ (g ≠ m ∧ g ≠ f ∧ (aupd (aupd ls f (ls m)) m []) g = ls g ∧ (aupd (aupd c f (c m)) m 0) g = c g) := fun g => by
    unfold aupd
    by_cases e : g = m
    · left; simp [e]
    · by_cases e' : g = f
      · right; left; simp [e, e']
        exact ⟨fun q => absurd q.symm ne, fun q => absurd q.symm ne⟩
      · right; right; simp [e, e']
  refine ⟨⟨fun g hg => ?_, fun g g' z hg hg' p p' => ?_⟩, fun g hg => ?_, fun g z hg => ?_, fun z g p => ?_, fun g hg => ?_, fun g hg p => ?_⟩
  · rcases cases3 g with ⟨e, w, _⟩ | ⟨e, w, _⟩ | ⟨e, e', w, _⟩
    · rw [w]; exact List.nodup_nil
    · rw [w]; exact D.1 m hm
    · rw [w]; exact D.1 g hg
  · rcases cases3 g with ⟨e, w, _⟩ | ⟨e, w, _⟩ | ⟨e, e', w, _⟩
    · rw [w] at p; cases p
    · rw [w] at p
      rcases cases3 g' with ⟨d, w', _⟩ | ⟨d, w', _⟩ | ⟨d, d', w', _⟩
      · rw [w'] at p'; cases p'
      · rw [e, d]
      · rw [w'] at p'; exact absurd (D.2 m g' z hm hg' p p').symm d
    · rw [w] at p
      rcases cases3 g' with ⟨d, w', _⟩ | ⟨d, w', _⟩ | ⟨d, d', w', _⟩
      · rw [w'] at p'; cases p'
      · rw [w'] at p'; exact absurd (D.2 g m z hg hm p p') e
      · rw [w'] at p'; exact D.2 g g' z hg hg' p p'
  · rcases cases3 g with ⟨e, w, u⟩ | ⟨e, w, u⟩ | ⟨e, e', w, u⟩
    · rw [w, u]; rfl
    · rw [w, u]; exact q1 m hm
    · rw [w, u]; exact q1 g hg
  · show _ ↔ (if a.2.2 z = some m then some f else a.2.2 z) = some g
    rcases cases3 g with ⟨e, w, u⟩ | ⟨e, w, u⟩ | ⟨e, e', w, u⟩
    · rw [w]
      refine ⟨fun p => (nomatch p), fun p => ?_⟩
      by_cases r : a.2.2 z = some m
      · rw [if_pos r] at p; exact absurd (e ▸ (Option.some.inj p).symm) ne
      · rw [if_neg r, e] at p; exact absurd p r
    · rw [w, q2 m z hm]
      by_cases r : a.2.2 z = some m
      · rw [if_pos r, e]; simp [r]
      · rw [if_neg r]
        refine ⟨fun p => absurd p r, fun p => ?_⟩
        rw [e] at p
        have := (q2 f z hf).mpr p
        rw [y1] at this; cases this
    · rw [w, q2 g z hg]
      by_cases r : a.2.2 z = some m
      · rw [if_pos r, r]
        exact ⟨fun p => absurd (Option.some.inj p).symm e, fun p => absurd (Option.some.inj p).symm e'⟩
      · rw [if_neg r]
  · change (if a.2.2 z = some m then some f else a.2.2 z) = some g at p
    by_cases r : a.2.2 z = some m
    · rw [if_pos r] at p; cases p; exact ⟨hf, (q3 z m r).2⟩
    · rw [if_neg r] at p; exact q3 z g p
  · show 0 < (aupd (aupd c f (c m)) m 0) g ↔ ((aupd (aupd a.1 f 1) m 0) g = 1 ∨ (aupd (aupd a.1 f 1) m 0) g = 2)
    rcases cases3 g with ⟨e, w, u⟩ | ⟨e, w, u⟩ | ⟨e, e', w, u⟩
    · rw [u]; unfold aupd; rw [if_pos e]; simp
    · rw [u]; unfold aupd; rw [if_neg (fun q => ne (q.symm.trans e)), if_pos e]
      exact ⟨fun _ => Or.inl rfl, fun _ => (q4 m hm).mpr (Or.inl sm)⟩
    · rw [u]; unfold aupd; rw [if_neg e, if_neg e']; exact q4 g hg
  · change (aupd (aupd a.1 f 1) m 0) g = 0 ∨ (aupd (aupd a.1 f 1) m 0) g = 3 at p
    show (aupd (aupd a.2.1 f (a.2.1 m)) m 0) g = 0
    unfold aupd at p ⊢
    by_cases e : g = m
    · rw [if_pos e]
    · rw [if_neg e] at p ⊢
      by_cases e' : g = f
      · rw [if_pos e'] at p; omega
      · rw [if_neg e'] at p ⊢; exact q5 g hg p
theorem migrate_ok {s : S} {a : Abs} (h : R s a) {m f : Nat} (hm : m < 8) (hf : f < 8) (sm : a.1 m = 1) (sf : a.1 f = 0) : ∃ s', k_migrateFrame (Int32.ofNat m) (Int32.ofNat f) s = some s' ∧ R s' (aStep a m f) ∧ Fx [6] [2, 3, 4, 5] [0, 1, 2, 3, 4] [] s s' := by
  obtain ⟨c, ls, G, RS', V, C, P, M, K⟩ := id h
  obtain ⟨g0, g1, l0, k1, k2, l3, l4, l5, l6, l7, g6⟩ := id G
  obtain ⟨y1, y2⟩ := con_empty K hf (Or.inl sf)
  have CS := con_step K hm hf sm sf
  obtain ⟨D, q1, q2, q3, q4, q5⟩ := id K
  have ne : m ≠ f := fun e => by rw [e, sf] at sm; cases sm
  obtain ⟨u, eu, Fu, Gu, Ru⟩ := enter_ok G RS' hf (x := 1) (by omega)
  have uA : ∀ k, k ≠ 0 → gA u k = gA s k := fun k hk => Fu.2.2.1 k (by simpa using hk)
  obtain ⟨w, hw⟩ : ∃ w, w = sA (sA u 1 ((gA s 1).set f (a.2.1 m))) 2 ((gA s 2).set f (Int32.ofNat (c m))) := ⟨_, rfl⟩
  have wA : ∀ k, k ≠ 1 → k ≠ 2 → gA w k = gA u k := fun k a b => by rw [hw, gA_sA, if_neg b, gA_sA, if_neg a]
  have w1 : gA w 1 = (gA s 1).set f (a.2.1 m) := by rw [hw]; simp [gA_sA]
  have w2 : gA w 2 = (gA s 2).set f (Int32.ofNat (c m)) := by rw [hw]; simp [gA_sA]
  have Fw : Fx [] [] [1, 2, 3, 4, 5, 6] [] u w := by
    have F0 : Fx [] [] [1, 2, 3, 4, 5, 6] [] u u := Fx.refl ..
    rw [hw]; exact (F0.sA (by simp)).sA (by simp)
  have Fw' : Fx [6] [2, 3, 4, 5] [0, 1, 2, 3, 4] [] u w := by
    have F0 : Fx [6] [2, 3, 4, 5] [0, 1, 2, 3, 4] [] u u := Fx.refl ..
    rw [hw]; exact (F0.sA (by simp)).sA (by simp)
  have Gw : Geo w := Gu.same Fw (by rw [w1, List.length_set]; exact k1) (by rw [w2, List.length_set]; exact k2) (by rw [wA 3 (by decide) (by decide), uA 3 (by decide)]; exact l3) (by rw [wA 4 (by decide) (by decide), uA 4 (by decide)]; exact l4) (by rw [wA 5 (by decide) (by decide), uA 5 (by decide)]; exact l5) (by rw [wA 6 (by decide) (by decide), uA 6 (by decide)]; exact l6)
  have Cw : RC w (aupd c f (c m)) := fun g hg => by
    rw [w2]
    unfold aupd
    by_cases q : g = f
    · subst q; rw [List.getElem?_set_self (by omega), if_pos rfl]
    · rw [List.getElem?_set_ne (by omega), if_neg q]; exact C g hg
  have Vw : RV w (aupd a.2.1 f (a.2.1 m)) := fun g hg => by
    rw [w1]
    unfold aupd
    by_cases q : g = f
    · subst q; rw [List.getElem?_set_self (by omega), if_pos rfl]
    · rw [List.getElem?_set_ne (by omega), if_neg q]; exact V g hg
  have Pw : RP w a.2.2 := fun z hz => by rw [wA 3 (by decide) (by decide), uA 3 (by decide)]; exact P z hz
  have Mw : RM w ls := fun g hg => by rw [wA 4 (by decide) (by decide), wA 5 (by decide) (by decide), wA 6 (by decide) (by decide), uA 4 (by decide), uA 5 (by decide), uA 6 (by decide)]; exact M g hg
  obtain ⟨t, et, Ft, Gt, Pt, Mt⟩ := transfer_ok Gw Pw Mw D hm hf ne y1
  have Rt : RS t (aupd a.1 f 1) := by
    obtain ⟨t1, t2, t3, t4⟩ := Ru
    have F2 : Fx [] [] [1, 2, 3, 4, 5, 6] [] u t := Fw.trans (Ft.mono (by simp) (by simp) (by simp) (by simp))
    exact ⟨by rw [F2.2.2.1 0 (by simp)]; exact t1, by rw [F2.2.1 2 (by simp)]; exact t2, by rw [F2.2.1 3 (by simp)]; exact t3, by rw [F2.1 6 (by simp), F2.2.2.2 7 (by simp), F2.2.1 2 (by simp)]; exact t4⟩
  have Vt : RV t (aupd a.2.1 f (a.2.1 m)) := fun g hg => by rw [Ft.2.2.1 1 (by simp)]; exact Vw g hg
  have Ct : RC t (aupd c f (c m)) := fun g hg => by rw [Ft.2.2.1 2 (by simp)]; exact Cw g hg
  have Pt' : RP t (aStep a m f).2.2 := fun z hz => by
    rw [Pt z hz]
    show some (pcode (if z ∈ ls m then some f else a.2.2 z)) = some (pcode (if a.2.2 z = some m then some f else a.2.2 z))
    by_cases r : z ∈ ls m
    · rw [if_pos r, if_pos ((q2 m z hm).mp r)]
    · rw [if_neg r, if_neg (fun e => r ((q2 m z hm).mpr e))]
  obtain ⟨s', es, Fs, Gs, Rs, Vs, Cs, Ps, Ms⟩ := free_ok Gt Rt Vt Ct Pt' Mt hm (by unfold aupd; rw [if_pos rfl])
  refine ⟨s', ?_, ⟨_, _, Gs, Rs, Vs, Cs, Ps, Ms, CS⟩, ?_⟩
  · obtain ⟨z1, z2⟩ := RS'.1 m hm
    obtain ⟨z3, z4⟩ := RS'.1 f hf
    unfold k_migrateFrame
    rw [inr_yes g0 hm, if_neg (by decide), inr_yes g0 hf, if_neg (by decide), ix_ofNat _ (by omega), z2, Option.bind_some, sm, if_pos (show Int32.ofNat 1 = 1 from rfl), ix_ofNat _ (by omega), z4, Option.bind_some, sf, if_pos (show Int32.ofNat 0 = 0 from rfl), ix_ofNat _ (by omega), V m hm, Option.bind_some, ix_ofNat _ (by omega), C m hm, Option.bind_some, show (1 : Int32) = Int32.ofNat 1 from rfl, eu, Option.bind_some, uA 1 (by decide), uA 2 (by decide), st_ofNat _ _ (by omega) (by omega), Option.bind_some, st_ofNat _ _ (by omega) (by omega), Option.bind_some, ← hw, et, Option.bind_some, es, Option.bind_some]
  · exact ((Fu.mono (by simp) (by simp) (by simp) (by simp)).trans Fw').trans ((Ft.mono (by simp) (by simp) (by simp) (by simp)).trans (Fs.mono (by simp) (by simp) (by simp) (by simp)))
def aGo : Nat → Abs → Nat → Nat → Nat → Nat → Nat × Abs
  | 0, a, _, _, k, _ => (k, a)
  | n + 1, a, lo, hi, k, lim => if mig a.1 lo hi < fret a.1 (mig a.1 lo hi) hi ∧ k ≠ lim then aGo n (aStep a (mig a.1 lo hi) (fret a.1 (mig a.1 lo hi) hi)) (mig a.1 lo hi + 1) (fret a.1 (mig a.1 lo hi) hi - 1) (k + 1) lim else (k, a)
theorem scan {st : Nat → Nat} {lo hi : Nat} (hh : hi ≤ 7) (w : mig st lo hi < fret st (mig st lo hi) hi) : lo ≤ mig st lo hi ∧ st (mig st lo hi) = 1 ∧ st (fret st (mig st lo hi) hi) = 0 ∧ fret st (mig st lo hi) hi ≤ hi ∧ lo < hi := by
  have lt : lo < hi := by
    rcases Nat.lt_or_ge lo hi with q | q
    · exact q
    · exfalso
      have e : mig st lo hi = lo := by unfold mig; rw [if_neg (by omega)]
      rw [e] at w
      have e2 : fret st lo hi = hi := by unfold fret; rw [if_neg (by omega)]
      omega
  have lt2 : mig st lo hi < hi := by
    rcases mig_spec st lt (by omega) with ⟨y, _⟩ | ⟨y1, y2, y3, _⟩
    · exfalso
      rw [y] at w
      have e2 : fret st hi hi = hi := by unfold fret; rw [if_neg (by omega)]
      omega
    · exact y2
  rcases mig_spec st lt (by omega) with ⟨y, _⟩ | ⟨y1, y2, y3, _⟩
  · omega
  rcases ret_spec st lt2 hh with ⟨y, _⟩ | ⟨z1, z2, z3, _⟩
  · omega
  exact ⟨y1, y3, z3, z2, lt⟩
theorem mig_le {st : Nat → Nat} {lo hi : Nat} (hl : lo ≤ 8) (hh : hi ≤ 7) : mig st lo hi ≤ 8 := by
  by_cases q : lo < hi
  · rcases mig_spec st q (by omega) with ⟨y, _⟩ | ⟨y1, y2, y3, _⟩ <;> omega
  · unfold mig; rw [if_neg q]; exact hl
theorem compact_loop : ∀ n s a lo hi k lim g N, R s a → hi ≤ 7 → lo ≤ 8 → k ≤ lo → g ≤ lo → lim ≤ 64 → 9 ≤ lo + n → n < N → gI s 9 = Int32.ofNat lo → gI s 10 = Int32.ofNat hi → gI s 8 = Int32.ofNat k → gI s 7 = Int32.ofNat lim → ∃ s', k_compact_34 N (Int32.ofNat g) s = some (Int32.ofNat (aGo n a lo hi k lim).1, s') ∧ R s' (aGo n a lo hi k lim).2
  | _, _, _, _, _, _, _, _, 0, _, _, _, _, _, _, _, h, _, _, _, _ => by omega
  | 0, _, _, _, _, _, _, _, N + 1, _, _, _, _, _, _, h, _, _, _, _, _ => by omega
  | n + 1, s, a, lo, hi, k, lim, g, N + 1, h, hh, hl, hk, hg, hlim, hn, hN, e9, e10, e8, e7 => by
    obtain ⟨t, et, Ft, t9, t10, t8, t7⟩ := adv_ok h hl hh e9 e10
    have Rt := h.fx Ft
    obtain ⟨u, eu, Fu, u10, u9, u8, u7⟩ := ret_ok Rt (mig_le hl hh) hh t9 (t10.trans e10)
    have Ru := Rt.fx Fu
    have ml : mig a.1 lo hi ≤ 8 := mig_le hl hh
    have rl : fret a.1 (mig a.1 lo hi) hi ≤ 8 := by
      by_cases q : mig a.1 lo hi < hi
      · rcases ret_spec a.1 q hh with ⟨y, _⟩ | ⟨y1, y2, y3, _⟩ <;> omega
      · unfold fret; rw [if_neg q]; omega
    rw [k_compact_34, if_neg (fun q => by rw [show (65 : Int32) = Int32.ofNat 65 from rfl, ofNat_lt (by omega) (by omega)] at q; omega), et, eu]
    unfold k_scannersDone
    rw [u9, t9, u10, u8, t8, e8, u7, t7, e7, aGo]
    by_cases w : mig a.1 lo hi < fret a.1 (mig a.1 lo hi) hi
    · rw [if_pos ((ofNat_lt (by omega) (by omega)).mpr w)]
      by_cases z : k = lim
      · rw [if_pos ((enc_inj (by omega) (by omega)).mpr z), if_neg (by decide), if_neg (by omega)]
        exact ⟨u, rfl, Ru⟩
      · rw [if_neg (show ¬ Int32.ofNat k = Int32.ofNat lim from fun q => z ((enc_inj (by omega) (by omega)).mp q)), if_pos rfl, if_pos ⟨w, z⟩]
        obtain ⟨s1, s2, s3, s4, s5⟩ := scan hh w
        obtain ⟨v, ev, Rv, Fv⟩ := migrate_ok Ru (m := mig a.1 lo hi) (f := fret a.1 (mig a.1 lo hi) hi) (by omega) (by omega) s2 s3
        rw [ev, Option.bind_some, ofNat_succ, Fv.1 8 (by simp), u8, t8, e8, Fv.1 9 (by simp), u9, t9, Fv.1 10 (by simp), u10, ofNat_succ, ofNat_succ]
        have sub : Int32.ofNat (fret a.1 (mig a.1 lo hi) hi) - 1 = Int32.ofNat (fret a.1 (mig a.1 lo hi) hi - 1) := by
          have := ofNat_succ (fret a.1 (mig a.1 lo hi) hi - 1)
          rw [show fret a.1 (mig a.1 lo hi) hi - 1 + 1 = fret a.1 (mig a.1 lo hi) hi by omega] at this
          rw [← this]; simp
        rw [sub]
        have F0 : Fx [7, 8, 9, 10] [] [] [] v v := Fx.refl ..
        exact compact_loop n _ _ _ _ _ _ _ N (Rv.fx (((F0.sI (by simp)).sI (by simp)).sI (by simp))) (by omega) (by omega) (by omega) (by omega) hlim (by omega) (by omega) (by simp [gI_sI]) (by simp [gI_sI]) (by simp [gI_sI]) (by simp [gI_sI, Fv.1 7 (by simp), u7, t7, e7])
    · rw [if_neg (fun q => w ((ofNat_lt (by omega) (by omega)).mp q)), if_neg (by decide), if_neg (fun q => w q.1)]
      exact ⟨u, rfl, Ru⟩
def lim64 (v : Int32) : Nat := if v < 0 then 0 else if 64 < v then 64 else v.toNatClampNeg
theorem lim64_ok (v : Int32) : k_clampInt v 0 64 = Int32.ofNat (lim64 v) ∧ lim64 v ≤ 64 := by
  unfold k_clampInt lim64
  by_cases q : v < 0
  · rw [if_pos q, if_pos q]; exact ⟨rfl, by omega⟩
  · rw [if_neg q, if_neg q]
    by_cases w : 64 < v
    · rw [if_pos w, if_pos w]; exact ⟨rfl, by omega⟩
    · rw [if_neg w, if_neg w]
      obtain ⟨e, l⟩ := eq_ofNat q
      refine ⟨e, ?_⟩
      rw [e, show (64 : Int32) = Int32.ofNat 64 from rfl, ofNat_lt (by omega) l] at w
      omega
def aCompact (a : Abs) (v : Int32) : Int32 × Abs := (Int32.ofNat (aGo 9 a 0 7 0 (lim64 v)).1, (aGo 9 a 0 7 0 (lim64 v)).2)
theorem compact_ok {s : S} {a : Abs} (h : R s a) (v : Int32) : ∃ s', k_compact v s = some ((aCompact a v).1, s') ∧ R s' (aCompact a v).2 := by
  unfold k_compact aCompact
  obtain ⟨c1, c2⟩ := lim64_ok v
  have g0 : gI s 0 = 8 := by obtain ⟨c, ls, G, _⟩ := h; exact G.1
  have F0 : Fx [7, 8, 9, 10] [] [] [] s s := Fx.refl ..
  rw [c1, g0]
  exact compact_loop 9 _ a 0 7 0 (lim64 v) 0 BIG (h.fx ((((F0.sI (by simp)).sI (by simp)).sI (by simp)).sI (by simp))) (by omega) (by omega) (by omega) (by omega) c2 (by omega) (by unfold BIG; omega) (by simp [gI_sI]) (by simp [gI_sI]) (by simp [gI_sI]) (by simp [gI_sI])
theorem R.g0 {s : S} {a : Abs} (h : R s a) : gI s 0 = 8 := by obtain ⟨c, ls, G, _⟩ := h; exact G.1
def aState (a : Abs) (v : Int32) : Int32 := match aFrame v with
  | none => -1
  | some f => Int32.ofNat (a.1 f)
theorem frameState_ok {s : S} {a : Abs} (h : R s a) (v : Int32) : k_frameState v s = some (aState a v) := by
  unfold k_frameState aState
  rcases frame_cases h.g0 v with ⟨n1, n2⟩ | ⟨f, hf, ev, n1, n2⟩
  · rw [n1, n2, if_pos rfl]
  · obtain ⟨c, ls, G, RS', _⟩ := h
    rw [n1, n2, if_neg (by decide), ev, ix_ofNat _ (by omega), (RS'.1 f hf).2, Option.bind_some]
def aValue (a : Abs) (v : Int32) : Int32 := match aFrame v with
  | none => 0
  | some f => a.2.1 f
theorem frameValue_ok {s : S} {a : Abs} (h : R s a) (v : Int32) : k_frameValue v s = some (aValue a v) := by
  unfold k_frameValue aValue
  rcases frame_cases h.g0 v with ⟨n1, n2⟩ | ⟨f, hf, ev, n1, n2⟩
  · rw [n1, n2, if_pos rfl]
  · obtain ⟨c, ls, G, RS', V, C, P, M, K⟩ := h
    obtain ⟨D, q1, q2, q3, q4, q5⟩ := id K
    obtain ⟨z1, z2⟩ := RS'.1 f hf
    rw [n1, n2, if_neg (by decide), ev, ix_ofNat _ (by omega), z2, Option.bind_some]
    dsimp only
    by_cases e : a.1 f = 0
    · rw [e, if_pos (show Int32.ofNat 0 = 0 from rfl), q5 f hf (Or.inl e)]
    rw [if_neg (show ¬ Int32.ofNat (a.1 f) = 0 from fun q => e ((enc_inj (by omega) (by omega)).mp q))]
    by_cases e3 : a.1 f = 3
    · rw [e3, if_pos (show Int32.ofNat 3 = 3 from rfl), q5 f hf (Or.inr e3)]
    rw [if_neg (show ¬ Int32.ofNat (a.1 f) = 3 from fun q => e3 ((enc_inj (by omega) (by omega)).mp q)), ix_ofNat _ (by omega), V f hf, Option.bind_some]
def aCnt (a : Abs) (f : Nat) : Nat := (List.range 64).countP fun x => decide (a.2.2 x = some f)
theorem nodup_filter (p : Nat → Bool) : ∀ {l : List Nat}, l.Nodup → (l.filter p).Nodup := fun h => List.Nodup.sublist List.filter_sublist h
theorem len_count {l : List Nat} (nd : l.Nodup) {n : Nat} {p : Nat → Bool} (h : ∀ x, x ∈ l ↔ (x < n ∧ p x = true)) : l.length = (List.range n).countP p := by
  rw [List.countP_eq_length_filter]
  apply List.Perm.length_eq
  refine (List.perm_ext_iff_of_nodup nd (nodup_filter _ List.nodup_range)).mpr fun x => ?_
  rw [h x, List.mem_filter, List.mem_range]
theorem con_cnt {a : Abs} {c : Nat → Nat} {ls : Nat → List Nat} (K : Con a c ls) {f : Nat} (hf : f < 8) : c f = aCnt a f := by
  obtain ⟨D, q1, q2, q3, q4, q5⟩ := id K
  rw [q1 f hf]
  refine len_count (D.1 f hf) fun x => ?_
  rw [q2 f x hf, decide_eq_true_eq]
  exact ⟨fun e => ⟨(q3 x f e).2.1, e⟩, fun e => e.2⟩
def aCount (a : Abs) (v : Int32) : Int32 := match aFrame v with
  | none => 0
  | some f => Int32.ofNat (aCnt a f)
theorem mapCount_ok {s : S} {a : Abs} (h : R s a) (v : Int32) : k_mapCount v s = some (aCount a v) := by
  unfold k_mapCount aCount
  rcases frame_cases h.g0 v with ⟨n1, n2⟩ | ⟨f, hf, ev, n1, n2⟩
  · rw [n1, n2, if_pos rfl]
  · obtain ⟨c, ls, G, RS', V, C, P, M, K⟩ := h
    rw [n1, n2, if_neg (by decide), ev, ix_ofNat _ (by omega), C f hf, Option.bind_some, con_cnt K hf]
def aFree (a : Abs) : Nat := (List.range 8).countP fun f => decide (a.1 f = 0)
theorem freeCount_ok {s : S} {a : Abs} (h : R s a) : k_freeCount s = Int32.ofNat (aFree a) := by
  obtain ⟨c, ls, G, RS', V, C, P, M, K⟩ := h
  obtain ⟨t1, ⟨m, hm, em, bm⟩, t3, t4⟩ := RS'
  unfold k_freeCount aFree
  rw [em, w_cnt ⟨m, hm⟩]
  congr 1
  apply List.countP_congr
  intro f hf
  rw [bm f (List.mem_range.mp hf)]
def a0 : Abs := (fun _ => 0, fun _ => 0, fun _ => none)
theorem rep_get {A : Type} {n i : Nat} (x : A) (h : i < n) : (rep n x)[i]? = some x := by unfold rep; rw [List.getElem?_replicate, if_pos h]
theorem init_R : ∃ s, k_init 8 4 = some s ∧ R s a0 := by
  obtain ⟨t, e, r0, r1, r2, r3, r4, r5, r6, A0, A1, A2, A3, A4, A5, A6, B7⟩ := own_reset (N := 8) (P := 4) (sI (sI (sB (sA (sA (sA (sA (sA (sA (sA s0 0 (rep 64 0)) 1 (rep 64 0)) 2 (rep 64 0)) 3 (rep 64 0)) 4 (rep 64 0)) 5 (rep 64 0)) 6 (rep 64 0)) 7 (rep 7 0)) 0 (k_clampInt 8 (8 : Int32) (64 : Int32))) 1 (k_clampInt 4 (4 : Int32) (16 : Int32))) (by simp [gI_sI]; decide) (by simp [gI_sI]; decide) (by
    intro f hf
    simp only [gA_sI, gA_sB, gA_sA]
    match f, hf with
    | 0, _ => exact rep_length 64 _
    | 1, _ => exact rep_length 64 _
    | 2, _ => exact rep_length 64 _
    | 3, _ => exact rep_length 64 _
    | 4, _ => exact rep_length 64 _
    | 5, _ => exact rep_length 64 _
    | 6, _ => exact rep_length 64 _) (by simp only [gB_sI, gB_sB]; exact rep_length 7 _)
  refine ⟨t, ?_, fun _ => 0, fun _ => [], ⟨r0, r1, ?_, ?_, ?_, ?_, ?_, ?_, ?_, B7, Or.inr r6⟩, ⟨fun f hf => ⟨by show 0 ≤ 3; omega, ?_⟩, ⟨255, by omega, ?_, fun f hf => ?_⟩, ⟨0, by omega, by rw [r3]; rfl, fun f hf => ?_⟩, fun q => ?_⟩, fun f hf => ?_, fun f hf => ?_, fun f hf => ?_, fun f hf => ⟨-1, ?_, ?_⟩, ⟨fun f hf => List.nodup_nil, fun f g x _ _ q _ => nomatch q⟩, fun f hf => rfl, fun f x hf => ⟨fun q => (nomatch q), fun q => (nomatch q)⟩, fun x f q => (nomatch q), fun f hf => ?_, fun f hf q => rfl⟩
  · unfold k_init; rw [e]; rfl
  · rw [A0]; simp [rep]
  · rw [A1]; simp [rep]
  · rw [A2]; simp [rep]
  · rw [A3]; simp [rep]
  · rw [A4]; simp [rep]
  · rw [A5]; simp [rep]
  · rw [A6]; simp [rep]
  · rw [A0, rep_get _ (by omega)]; rfl
  · rw [r2]; decide
  · match f, hf with | 0, _ => decide | 1, _ => decide | 2, _ => decide | 3, _ => decide | 4, _ => decide | 5, _ => decide | 6, _ => decide | 7, _ => decide
  · rw [Nat.zero_testBit]; rfl
  · rw [r6] at q; cases q
  · rw [A1, rep_get _ (by omega)]; rfl
  · rw [A2, rep_get _ (by omega)]; rfl
  · rw [A3, rep_get _ (by omega)]; rfl
  · rw [A4, rep_get _ (by omega)]
  · rfl
  · simp [a0]
theorem R.st3 {s : S} {a : Abs} (h : R s a) {f : Nat} (hf : f < 8) : a.1 f ≤ 3 := by
  obtain ⟨c, ls, G, RS', _⟩ := h; exact (RS'.1 f hf).1
theorem R.empty {s : S} {a : Abs} (h : R s a) {f : Nat} (hf : f < 8) (e : a.1 f = 0 ∨ a.1 f = 3) : aCnt a f = 0 := by
  obtain ⟨c, ls, G, RS', V, C, P, M, K⟩ := h
  rw [← con_cnt K hf]; exact (con_empty K hf e).2
theorem R.used {s : S} {a : Abs} (h : R s a) {f : Nat} (hf : f < 8) (e : a.1 f = 1 ∨ a.1 f = 2) : 0 < aCnt a f := by
  obtain ⟨c, ls, G, RS', V, C, P, M, K⟩ := h
  rw [← con_cnt K hf]; exact (K.2.2.2.2.1 f hf).mpr e
theorem R.val0 {s : S} {a : Abs} (h : R s a) {f : Nat} (hf : f < 8) (e : a.1 f = 0 ∨ a.1 f = 3) : a.2.1 f = 0 := by
  obtain ⟨c, ls, G, RS', V, C, P, M, K⟩ := h
  exact K.2.2.2.2.2 f hf e
theorem R.slot {s : S} {a : Abs} (h : R s a) {x f : Nat} (e : a.2.2 x = some f) : f < 8 ∧ x < 64 ∧ x % 16 < 4 := by
  obtain ⟨c, ls, G, RS', V, C, P, M, K⟩ := h
  exact K.2.2.2.1 x f e
theorem R.pos {s : S} {a : Abs} (h : R s a) {x f : Nat} (e : a.2.2 x = some f) : a.1 f = 1 ∨ a.1 f = 2 := by
  have hf := (h.slot e).1
  obtain ⟨c, ls, G, RS', V, C, P, M, D, q1, q2, q3, q4, q5⟩ := h
  refine (q4 f hf).mp ?_
  rw [q1 f hf]
  exact List.length_pos_of_mem ((q2 f x hf).mpr e)
theorem aCnt_le (a : Abs) (f : Nat) : aCnt a f ≤ 64 := by
  unfold aCnt
  exact Nat.le_trans List.countP_le_length (by simp)
theorem aSlot_nat {q v : Nat} (hq : q < 4) (hv : v < 4) : aSlot (Int32.ofNat q) (Int32.ofNat v) = some (q * 16 + v) := by
  unfold aSlot
  rw [if_neg (ofNat_nonneg (by omega)), if_pos ((lt_lit (m := 4) (by omega) (by decide)).mpr hq), if_neg (ofNat_nonneg (by omega)), if_pos ((lt_lit (m := 4) (by omega) (by decide)).mpr hv), ofNat_clamp (by omega), ofNat_clamp (by omega)]
def dn (st : Nat → Nat) : Nat → Int32
  | 0 => if (lowRun st 0).isSome then 0 else -1
  | j + 1 => if (lowRun st (j + 1)).isSome then Int32.ofNat (j + 1) else dn st j
theorem lev_zero : ∀ k : Fin 7, lev 0 k.val = 0 := by decide +kernel
theorem lowRun_iff {s : S} {a : Abs} (h : R s a) {k : Nat} (hk : k < 7) : (lowRun a.1 k).isSome = true ↔ lev (gL s 2) k ≠ 0 := by
  obtain ⟨c, ls, G, RS', _⟩ := id h
  obtain ⟨t1, ⟨m, hm, em, bm⟩, t3, t4⟩ := id RS'
  rw [em]
  rcases lowRun_ok hm bm hk with ⟨z1, z2⟩ | ⟨f, hf, z1, z2, z3, z4⟩
  · rw [z1, z2]; simp
  · rw [z2]; simp [z1]
theorem lfo_loop {s u : S} {a : Abs} (h : R s a) (lv : ∀ k, k < 7 → (gB u 7)[k]? = some (lev (gL s 2) k)) : ∀ j N, j < 7 → j + 1 < N → k_largestFreeOrder_18 N (Int32.ofNat j) u = some (dn a.1 j, u)
  | _, 0, _, h => by omega
  | 0, N + 1, hj, hN => by
    have w := lowRun_iff h hj
    rw [k_largestFreeOrder_18, if_neg (ofNat_nonneg (by omega)), ix_ofNat _ (by omega), lv 0 hj, Option.bind_some, dn]
    by_cases q : lev (gL s 2) 0 = 0
    · rw [if_pos q, if_neg (fun e => w.mp e q)]
      obtain ⟨M, rfl⟩ : ∃ M, N = M + 1 := ⟨N - 1, by omega⟩
      rw [k_largestFreeOrder_18, if_pos (by decide)]
    · rw [if_neg q, if_pos (w.mpr q)]; rfl
  | j + 1, N + 1, hj, hN => by
    have w := lowRun_iff h hj
    rw [k_largestFreeOrder_18, if_neg (ofNat_nonneg (by omega)), ix_ofNat _ (by omega), lv _ hj, Option.bind_some, dn]
    by_cases q : lev (gL s 2) (j + 1) = 0
    · rw [if_pos q, if_neg (fun e => w.mp e q), show Int32.ofNat (j + 1) + -1 = Int32.ofNat j by rw [← ofNat_succ]; simp [Int32.add_assoc]]
      exact lfo_loop h lv j N (by omega) (by omega)
    · rw [if_neg q, if_pos (w.mpr q)]
theorem dn_none {st : Nat → Nat} : ∀ j, (∀ k, k ≤ j → (lowRun st k).isSome = false) → dn st j = -1
  | 0, h => by rw [dn, h 0 (by omega)]; rfl
  | j + 1, h => by rw [dn, h (j + 1) (by omega)]; exact dn_none j fun k hk => h k (by omega)
theorem lfo_ok {s : S} {a : Abs} (h : R s a) : ∃ s', k_largestFreeOrder s = some (dn a.1 6, s') ∧ R s' a := by
  unfold k_largestFreeOrder
  by_cases q : gL s 2 = 0
  · rw [if_pos q]
    refine ⟨s, ?_, h⟩
    rw [dn_none 6]
    intro k hk
    have w := lowRun_iff h (k := k) (by omega)
    rw [q] at w
    cases e : (lowRun a.1 k).isSome with
    | false => rfl
    | true => exact absurd (lev_zero ⟨k, by omega⟩) (w.mp e)
  · rw [if_neg q]
    obtain ⟨t, et, Rt, L2, lv⟩ := refresh_ok h
    rw [et, Option.bind_some]
    exact ⟨t, lfo_loop h lv 6 BIG (by omega) (by unfold BIG; omega), Rt⟩
theorem lowFree_st {st : Nat → Nat} {f : Nat} (e : lowFree st = some f) : f < 8 ∧ st f = 0 := by
  unfold lowFree at e
  rw [List.find?_range_eq_some] at e
  exact ⟨List.mem_range.mp e.2.1, by simpa using e.1⟩
theorem countP_upd {A : Type} (g : Nat → A) (p : A → Bool) (f : Nat) (x : A) : ∀ n, f < n → (List.range n).countP (fun i => p (aupd g f x i)) + (if p (g f) then 1 else 0) = (List.range n).countP (fun i => p (g i)) + (if p x then 1 else 0)
  | 0, h => by omega
  | n + 1, h => by
    rw [List.range_succ, List.countP_append, List.countP_append, List.countP_cons, List.countP_cons, List.countP_nil, List.countP_nil]
    by_cases q : f = n
    · subst q
      have e : (List.range f).countP (fun i => p (aupd g f x i)) = (List.range f).countP (fun i => p (g i)) := by
        apply List.countP_congr
        intro i hi
        have := List.mem_range.mp hi
        unfold aupd
        rw [if_neg (by omega)]
      have e2 : aupd g f x f = x := by unfold aupd; rw [if_pos rfl]
      rw [e, e2]
      omega
    · have := countP_upd g p f x n (by omega)
      have e2 : aupd g f x n = g n := by unfold aupd; rw [if_neg (by omega)]
      rw [e2]
      omega
def pU (n : Nat) : Bool := decide (n = 1) || decide (n = 2)
def pR (n : Nat) : Bool := decide (n = 3)
def pP (n : Nat) : Bool := decide (n = 2)
def nU (a : Abs) : Nat := (List.range 8).countP fun f => pU (a.1 f)
def nR (a : Abs) : Nat := (List.range 8).countP fun f => pR (a.1 f)
def nP (a : Abs) : Nat := (List.range 8).countP fun f => pP (a.1 f)
def nPg (a : Abs) : Nat := (List.range 64).countP fun x => (a.2.2 x).isSome
def sumC (a : Abs) : Nat → Nat
  | 0 => 0
  | t + 1 => sumC a t + aCnt a t
def belowB (t : Nat) : Option Nat → Bool
  | none => false
  | some f => decide (f < t)
theorem countP_add {l : List Nat} {p q r : Nat → Bool} (h : ∀ x ∈ l, ((if p x then 1 else 0) + (if q x then 1 else 0) : Nat) = if r x then 1 else 0) : l.countP p + l.countP q = l.countP r := by
  induction l with
  | nil => rfl
  | cons y l ih =>
    rw [List.countP_cons, List.countP_cons, List.countP_cons]
    have h1 := ih fun x hx => h x (List.mem_cons_of_mem _ hx)
    have h2 := h y List.mem_cons_self
    omega
theorem sumC_below (a : Abs) : ∀ t, sumC a t = (List.range 64).countP fun x => belowB t (a.2.2 x)
  | 0 => by
    show 0 = _
    symm
    rw [List.countP_eq_zero]
    intro x _
    cases a.2.2 x <;> simp [belowB]
  | t + 1 => by
    rw [sumC, sumC_below a t]
    unfold aCnt
    apply countP_add
    intro x _
    cases a.2.2 x with
    | none => simp [belowB]
    | some f =>
      simp only [belowB, Option.some.injEq]
      by_cases q : f < t
      · simp [q, show ¬ f = t by omega, show f < t + 1 by omega]
      · by_cases w : f = t
        · simp [w]
        · simp [q, w, show ¬ f < t + 1 by omega]
theorem sumC_all {s : S} {a : Abs} (h : R s a) : sumC a 8 = nPg a := by
  rw [sumC_below]
  unfold nPg
  apply List.countP_congr
  intro x _
  cases e : a.2.2 x with
  | none => simp [belowB]
  | some f => simp [belowB, (h.slot e).1]
/-- the four counts of a state -/
def Cs (a : Abs) (pg u r p : Nat) : Prop := nPg a = pg ∧ nU a = u ∧ nR a = r ∧ nP a = p
theorem Cs.st {st : Nat → Nat} {val val' : Nat → Int32} {pf : Nat → Option Nat} {pg u r p : Nat} (h : Cs (st, val, pf) pg u r p) {f x : Nat} (hf : f < 8) {u' r' p' : Nat} (e1 : u' + (if pU (st f) then 1 else 0) = u + (if pU x then 1 else 0)) (e2 : r' + (if pR (st f) then 1 else 0) = r + (if pR x then 1 else 0)) (e3 : p' + (if pP (st f) then 1 else 0) = p + (if pP x then 1 else 0)) : Cs (aupd st f x, val', pf) pg u' r' p' := by
  obtain ⟨h0, h1, h2, h3⟩ := h
  have k1 := countP_upd st pU f x 8 hf
  have k2 := countP_upd st pR f x 8 hf
  have k3 := countP_upd st pP f x 8 hf
  unfold nU at h1
  unfold nR at h2
  unfold nP at h3
  dsimp only at h1 h2 h3
  refine ⟨h0, ?_, ?_, ?_⟩
  · unfold nU; dsimp only; omega
  · unfold nR; dsimp only; omega
  · unfold nP; dsimp only; omega
theorem Cs.pg {st : Nat → Nat} {val : Nat → Int32} {pf : Nat → Option Nat} {pg u r p : Nat} (h : Cs (st, val, pf) pg u r p) {x : Nat} {o : Option Nat} (hx : x < 64) {pg' : Nat} (e : pg' + (if (pf x).isSome then 1 else 0) = pg + (if o.isSome then 1 else 0)) : Cs (st, val, aupd pf x o) pg' u r p := by
  obtain ⟨h0, h1, h2, h3⟩ := h
  have k := countP_upd pf Option.isSome x o 64 hx
  unfold nPg at h0
  dsimp only at h0
  refine ⟨?_, h1, h2, h3⟩
  unfold nPg; dsimp only; omega
theorem Cs.val {a : Abs} {pg u r p : Nat} (h : Cs a pg u r p) (val' : Nat → Int32) : Cs (a.1, val', a.2.2) pg u r p := h
theorem cs_step {a : Abs} {pg u r p : Nat} (h : Cs a pg u r p) {m f : Nat} (hm : m < 8) (hf : f < 8) (sm : a.1 m = 1) (sf : a.1 f = 0) : Cs (aStep a m f) pg u r p := by
  have ne : m ≠ f := fun e => by rw [e, sf] at sm; cases sm
  have h1 : Cs (aupd a.1 f 1, a.2.1, a.2.2) pg (u + 1) r p := Cs.st (st := a.1) (val := a.2.1) (pf := a.2.2) h hf (by rw [sf]; simp [pU]) (by rw [sf]; simp [pR]) (by rw [sf]; simp [pP])
  have sm' : (aupd a.1 f 1) m = 1 := by unfold aupd; rw [if_neg ne]; exact sm
  have h2 : Cs (aupd (aupd a.1 f 1) m 0, aupd (aupd a.2.1 f (a.2.1 m)) m 0, a.2.2) pg u r p := Cs.st h1 hm (by rw [sm']; simp [pU]) (by rw [sm']; simp [pR]) (by rw [sm']; simp [pP])
  obtain ⟨q0, q1, q2, q3⟩ := h2
  refine ⟨?_, q1, q2, q3⟩
  rw [← q0]
  unfold nPg
  apply List.countP_congr
  intro x _
  show ((if a.2.2 x = some m then some f else a.2.2 x).isSome = true) ↔ _
  by_cases w : a.2.2 x = some m
  · rw [if_pos w, w]; simp
  · rw [if_neg w]
theorem cs_go {pg u r p : Nat} : ∀ n (a : Abs) lo hi k lim, hi ≤ 7 → Cs a pg u r p → Cs (aGo n a lo hi k lim).2 pg u r p
  | 0, a, lo, hi, k, lim, hh, h => h
  | n + 1, a, lo, hi, k, lim, hh, h => by
    rw [aGo]
    by_cases w : mig a.1 lo hi < fret a.1 (mig a.1 lo hi) hi ∧ k ≠ lim
    · rw [if_pos w]
      obtain ⟨s1, s2, s3, s4, s5⟩ := scan hh w.1
      exact cs_go n _ _ _ _ _ (by omega) (cs_step h (by omega) (by omega) s2 s3)
    · rw [if_neg w]; exact h
theorem go_le : ∀ n (a : Abs) lo hi k lim, k ≤ lim → (aGo n a lo hi k lim).1 ≤ lim
  | 0, a, lo, hi, k, lim, h => h
  | n + 1, a, lo, hi, k, lim, h => by
    rw [aGo]
    by_cases w : mig a.1 lo hi < fret a.1 (mig a.1 lo hi) hi ∧ k ≠ lim
    · rw [if_pos w]; exact go_le n _ _ _ _ _ (by omega)
    · rw [if_neg w]; exact h
theorem cs_resv {a : Abs} {pg u r p f : Nat} (h : Cs a pg u r p) : ∀ n, f + n ≤ 8 → (∀ j, j < n → a.1 (f + j) = 0) → Cs ((resv a.1 a.2.1 f n).1, (resv a.1 a.2.1 f n).2, a.2.2) pg u (r + n) p
  | 0, _, _ => h
  | n + 1, hn, e => by
    have ih := cs_resv h n (by omega) fun j hj => e j (by omega)
    have e0 : (resv a.1 a.2.1 f n).1 (f + n) = 0 := by rw [resv_st, if_neg (by omega)]; exact e n (by omega)
    exact Cs.st ih (by omega) (by rw [e0]; simp [pU]) (by rw [e0]; simp [pR]; omega) (by rw [e0]; simp [pP])
theorem others_cnt {s : S} {a : Abs} (h : R s a) {x f : Nat} (hp : a.2.2 x = some f) : others a.2.2 x f = true ↔ aCnt a f ≠ 1 := by
  obtain ⟨c, ls, G, RS', V, C, P, M, K⟩ := h
  obtain ⟨D, q1, q2, q3, q4, q5⟩ := id K
  have hf := (q3 x f hp).1
  obtain ⟨l1, l2, hl⟩ := List.append_of_mem ((q2 f x hf).mpr hp)
  rw [others_iff K hp hl, ← con_cnt K hf, q1 f hf, hl]
  have : (l1 ++ x :: l2).length = (l1 ++ l2).length + 1 := by simp; omega
  rw [this]
  constructor
  · intro w z; exact w (List.length_eq_zero_iff.mp (by omega))
  · intro w z; rw [z] at w; exact w rfl

theorem and_nat (x : Int32) {m : Nat} (hm : m < 2147483648) : x &&& Int32.ofNat m = Int32.ofNat (x.toBitVec.toNat &&& m) := by
  apply Int32.toBitVec_inj.mp
  apply BitVec.eq_of_toNat_eq
  have h1 : x.toBitVec.toNat &&& m ≤ m := Nat.and_le_right
  rw [Int32.toBitVec_and, BitVec.toNat_and]
  show x.toBitVec.toNat &&& (BitVec.ofNat 32 m).toNat = (BitVec.ofNat 32 (x.toBitVec.toNat &&& m)).toNat
  rw [BitVec.toNat_ofNat, BitVec.toNat_ofNat, Nat.mod_eq_of_lt (by omega), Nat.mod_eq_of_lt (by omega)]
theorem and_small (x : Int32) (m : Nat) (hm : m < 2147483648) : ∃ n, n ≤ m ∧ x &&& Int32.ofNat m = Int32.ofNat n := ⟨_, Nat.and_le_right, and_nat x hm⟩
theorem mod5 : ∀ n : Fin 8, ∃ k : Fin 5, Int32.ofNat n.val % 5 = Int32.ofNat k.val := by decide
theorem mod9 : ∀ n : Fin 16, ∃ k : Fin 9, Int32.ofNat n.val % 9 = Int32.ofNat k.val := by decide
theorem arg5 (x : Int32) : ∃ k, k < 5 ∧ (x &&& 7) % 5 = Int32.ofNat k := by
  obtain ⟨n, hn, e⟩ := and_small x 7 (by omega)
  obtain ⟨k, hk⟩ := mod5 ⟨n, by omega⟩
  exact ⟨k.val, k.isLt, by rw [show (7 : Int32) = Int32.ofNat 7 from rfl, e]; exact hk⟩
theorem arg9 (x : Int32) : ∃ k, k < 9 ∧ (x &&& 15) % 9 = Int32.ofNat k := by
  obtain ⟨n, hn, e⟩ := and_small x 15 (by omega)
  obtain ⟨k, hk⟩ := mod9 ⟨n, by omega⟩
  exact ⟨k.val, k.isLt, by rw [show (15 : Int32) = Int32.ofNat 15 from rfl, e]; exact hk⟩
theorem arg3 (x : Int32) : ∃ k, k < 4 ∧ x &&& 3 = Int32.ofNat k := by
  obtain ⟨n, hn, e⟩ := and_small x 3 (by omega)
  exact ⟨n, by omega, e⟩
theorem big_run {st : Nat → Nat} {k : Nat} (hk : 4 ≤ k) : (lowRun st k).isSome = false := by
  cases e : lowRun st k with
  | none => rfl
  | some f =>
    unfold lowRun at e
    rw [List.find?_range_eq_some] at e
    obtain ⟨_, y2, _⟩ := runAt_iff e.1
    have : 2 ^ 4 ≤ 2 ^ k := Nat.pow_le_pow_right (by omega) hk
    omega
theorem dn_le {st : Nat → Nat} : ∀ j, dn st j = -1 ∨ ∃ k, k ≤ j ∧ dn st j = Int32.ofNat k ∧ (lowRun st k).isSome = true
  | 0 => by
    rw [dn]
    by_cases q : (lowRun st 0).isSome = true
    · rw [if_pos q]; exact Or.inr ⟨0, by omega, rfl, q⟩
    · rw [if_neg q]; exact Or.inl rfl
  | j + 1 => by
    rw [dn]
    by_cases q : (lowRun st (j + 1)).isSome = true
    · rw [if_pos q]; exact Or.inr ⟨j + 1, by omega, rfl, q⟩
    · rw [if_neg q]
      rcases dn_le j with w | ⟨k, w, z⟩
      · exact Or.inl w
      · exact Or.inr ⟨k, by omega, z⟩
theorem dn_pos {st : Nat → Nat} (h : (lowRun st 0).isSome = true) : ∀ j, ∃ k, k ≤ j ∧ dn st j = Int32.ofNat k
  | 0 => by rw [dn, if_pos h]; exact ⟨0, by omega, rfl⟩
  | j + 1 => by
    rw [dn]
    by_cases q : (lowRun st (j + 1)).isSome = true
    · rw [if_pos q]; exact ⟨j + 1, by omega, rfl⟩
    · rw [if_neg q]
      obtain ⟨k, w, z⟩ := dn_pos h j
      exact ⟨k, by omega, z⟩
theorem lo_ok (a : Abs) : (if dn a.1 6 = -1 then (1 : Int32) else 0) = (if Int32.ofNat (aFree a) = 0 then (1 : Int32) else 0) ∧ ¬ 3 < dn a.1 6 := by
  have fl : aFree a ≤ 8 := by unfold aFree; exact Nat.le_trans List.countP_le_length (by simp)
  have f0 : Int32.ofNat (aFree a) = 0 ↔ aFree a = 0 := enc_inj (y := 0) (by omega) (by omega)
  constructor
  · rcases dn_le (st := a.1) 6 with w | ⟨k, hk, w, z⟩
    · rw [if_pos w, if_pos]
      rw [f0]
      rcases Nat.eq_zero_or_pos (aFree a) with y | y
      · exact y
      · exfalso
        unfold aFree at y
        obtain ⟨f, hf, e⟩ := List.countP_pos_iff.mp y
        have hf8 := List.mem_range.mp hf
        have : (lowRun a.1 0).isSome = true := by
          unfold lowRun
          rw [List.find?_isSome]
          refine ⟨f, hf, ?_⟩
          unfold runAt
          simp only [decide_eq_true_eq] at e
          simp [e, hf8]
          omega
        obtain ⟨k, hk, e2⟩ := dn_pos this 6
        rw [w] at e2
        exact absurd (show (-1 : Int32) < 0 by decide) (by rw [e2]; exact ofNat_nonneg (by omega))
    · have n1 : ¬ dn a.1 6 = -1 := fun e => by
        rw [e] at w
        exact absurd (show (-1 : Int32) < 0 by decide) (by rw [w]; exact ofNat_nonneg (by omega))
      rw [if_neg n1, if_neg]
      rw [f0]
      intro y
      unfold aFree at y
      rw [List.countP_eq_zero] at y
      obtain ⟨f, hf⟩ := Option.isSome_iff_exists.mp z
      unfold lowRun at hf
      rw [List.find?_range_eq_some] at hf
      obtain ⟨_, y2, y3⟩ := runAt_iff hf.1
      have p : 0 < 2 ^ k := Nat.two_pow_pos k
      exact y f hf.2.1 (by simpa using y3 0 p)
  · rcases dn_le (st := a.1) 6 with w | ⟨k, hk, w, z⟩
    · rw [w]; decide
    · rw [w]
      have : k < 4 := by
        rcases Nat.lt_or_ge k 4 with y | y
        · exact y
        · rw [big_run y] at z; cases z
      rw [show (3 : Int32) = Int32.ofNat 3 from rfl, ofNat_lt (by omega) (by omega)]
      omega
theorem check_loop {t : S} {a : Abs} (h : R t a) (v1 v2 v3 v4 : Int32) : ∀ m j N, j + m = 8 → m < N → h_check_18 N v1 v2 v3 v4 (Int32.ofNat ((List.range j).countP fun f => decide (a.1 f = 0))) (Int32.ofNat ((List.range j).countP fun f => pU (a.1 f))) (Int32.ofNat ((List.range j).countP fun f => pR (a.1 f))) (Int32.ofNat ((List.range j).countP fun f => pP (a.1 f))) (Int32.ofNat (sumC a j)) (Int32.ofNat j) t = h_check_131 v1 v2 v3 v4 (Int32.ofNat (aFree a)) (Int32.ofNat (nU a)) (Int32.ofNat (nR a)) (Int32.ofNat (nP a)) (Int32.ofNat (sumC a 8)) t
  | _, _, 0, _, h => by omega
  | 0, j, N + 1, hj, _ => by
    have : j = 8 := by omega
    subst this
    rw [h_check_18, if_neg (by decide)]; rfl
  | m + 1, j, N + 1, hj, hN => by
    have hj8 : j < 8 := by omega
    have c4 := h.st3 hj8
    have l64 := aCnt_le a j
    rw [h_check_18, if_pos ((lt_lit (m := 8) (by omega) (by decide)).mpr hj8), frameState_ok h, mapCount_ok h, frameValue_ok h]
    unfold aState aCount aValue
    rw [aFrame_nat hj8]
    dsimp only
    rw [Option.bind_some, Option.bind_some, Option.bind_some]
    have ih := check_loop h v1 v2 v3 v4 m (j + 1) N (by omega) (by omega)
    rw [List.range_succ] at ih
    simp only [List.countP_append, List.countP_cons, List.countP_nil, Nat.zero_add] at ih
    rw [sumC] at ih
    rcases (show a.1 j = 0 ∨ a.1 j = 1 ∨ a.1 j = 2 ∨ a.1 j = 3 by omega) with e | e | e | e
    · rw [e] at ih ⊢
      have z := h.empty hj8 (Or.inl e)
      rw [z] at ih ⊢
      rw [if_pos (show Int32.ofNat 0 = 0 from rfl), if_pos (show Int32.ofNat 0 = 0 from rfl), h.val0 hj8 (Or.inl e), if_pos rfl, ofNat_succ, ofNat_succ, ofNat_add']
      simpa [pU, pR, pP] using ih
    · rw [e] at ih ⊢
      have z := h.used hj8 (Or.inl e)
      rw [if_neg (by decide), if_neg (by decide), if_pos (show Int32.ofNat 1 = 1 from rfl), h_check_100, if_neg (show ¬ Int32.ofNat (aCnt a j) < 1 from fun w => by have := (lt_lit (m := 1) (by omega) (by decide)).mp w; omega), ofNat_succ, ofNat_succ, ofNat_add', if_neg (by decide)]
      simpa [pU, pR, pP] using ih
    · rw [e] at ih ⊢
      have z := h.used hj8 (Or.inr e)
      rw [if_neg (by decide), if_neg (by decide), if_neg (by decide), if_pos (show Int32.ofNat 2 = 2 from rfl), h_check_100, if_neg (show ¬ Int32.ofNat (aCnt a j) < 1 from fun w => by have := (lt_lit (m := 1) (by omega) (by decide)).mp w; omega), ofNat_succ, ofNat_succ, ofNat_succ, ofNat_add', if_pos (show Int32.ofNat 2 = 2 from rfl)]
      simpa [pU, pR, pP] using ih
    · rw [e] at ih ⊢
      have z := h.empty hj8 (Or.inr e)
      rw [z] at ih ⊢
      rw [if_neg (by decide), if_pos (show Int32.ofNat 3 = 3 from rfl), if_pos (show Int32.ofNat 0 = 0 from rfl), ofNat_succ, ofNat_succ, ofNat_add']
      simpa [pU, pR, pP] using ih
theorem check_ok {t : S} {a : Abs} (h : R t a) {pg u r p : Nat} (c : Cs a pg u r p) : ∃ t', h_check (Int32.ofNat pg) (Int32.ofNat u) (Int32.ofNat r) (Int32.ofNat p) t = some (1, t') ∧ R t' a := by
  obtain ⟨c0, c1, c2, c3⟩ := c
  have L := check_loop h (Int32.ofNat pg) (Int32.ofNat u) (Int32.ofNat r) (Int32.ofNat p) 8 0 BIG (by omega) (by unfold BIG; omega)
  unfold h_check
  obtain ⟨t', et, Rt⟩ := lfo_ok h
  obtain ⟨w1, w2⟩ := lo_ok a
  refine ⟨t', ?_, Rt⟩
  refine Eq.trans L ?_
  unfold h_check_131
  rw [frameState_ok h, Option.bind_some, show aState a 8 = -1 from by unfold aState; rw [show aFrame 8 = none by decide], if_pos rfl, freeCount_ok h, if_pos rfl, et, Option.bind_some]
  unfold h_check_168 h_check_179
  dsimp only
  rw [w1, if_pos rfl, if_neg w2, c1, if_pos rfl, c2, if_pos rfl, c3, if_pos rfl, sumC_all h, c0, if_pos rfl]
def Q (K : Int32 → Int32 → Int32 → Int32 → Int32 → List Int32 → S → Option (Int32 × S)) (k : Nat) (q : List Int32) (res : Option (Int32 × S)) : Prop := ∃ pg u r p t a, res = K (Int32.ofNat pg) (Int32.ofNat u) (Int32.ofNat r) (Int32.ofNat p) (Int32.ofNat (k + 4)) q t ∧ R t a ∧ Cs a pg u r p
theorem tail {K : Int32 → Int32 → Int32 → Int32 → Int32 → List Int32 → S → Option (Int32 × S)} {k : Nat} {q : List Int32} {t : S} {a : Abs} {pg u r p : Nat} (h : R t a) (c : Cs a pg u r p) : Q K k q (law_811 K (Int32.ofNat pg) (Int32.ofNat u) (Int32.ofNat r) (Int32.ofNat p) (Int32.ofNat k) q t) := by
  obtain ⟨t', e, Rt⟩ := check_ok h c
  refine ⟨pg, u, r, p, t', a, ?_, Rt, c⟩
  unfold law_811
  rw [e, Option.bind_some, if_neg (show ¬ (1 : Int32) = 0 by decide), ofNat_lit]
theorem aSlot5 {P V : Nat} (hP : P < 5) (hV : V < 5) : aSlot (Int32.ofNat P) (Int32.ofNat V) = if P < 4 ∧ V < 4 then some (P * 16 + V) else none := by
  by_cases q : P < 4 ∧ V < 4
  · rw [if_pos q, aSlot_nat q.1 q.2]
  · rw [if_neg q]
    unfold aSlot
    rw [if_neg (ofNat_nonneg (by omega))]
    by_cases w : P < 4
    · rw [if_pos ((lt_lit (m := 4) (by omega) (by decide)).mpr w), if_neg (ofNat_nonneg (by omega)), if_neg (fun z => q ⟨w, (lt_lit (m := 4) (by omega) (by decide)).mp z⟩)]
    · rw [if_neg (fun z => w ((lt_lit (m := 4) (by omega) (by decide)).mp z))]
theorem lt3 {P : Nat} (hP : P < 5) : (3 : Int32) < Int32.ofNat P ↔ ¬ P < 4 := by
  rw [show (3 : Int32) = Int32.ofNat 3 from rfl, ofNat_lt (by omega) (by omega)]; omega
theorem dec1 (n : Nat) : Int32.ofNat (n + 1) + -1 = Int32.ofNat n := by rw [← ofNat_succ]; simp [Int32.add_assoc]
theorem free_loop {K : Int32 → Int32 → Int32 → Int32 → Int32 → List Int32 → S → Option (Int32 × S)} {q : List Int32} {t : S} {a : Abs} (h : R t a) {f : Nat} (hf : f < 8) (e : ∀ g, g < f → a.1 g ≠ 0) (v2 v3 v4 v5 v6 : Int32) : ∀ m j N, j + m = f → m < N → law_263 K N v2 v3 v4 v5 v6 (Int32.ofNat f) (Int32.ofNat j) q t = law_287 K v2 v3 v4 v5 v6 q t
  | _, _, 0, _, h => by omega
  | 0, j, N + 1, hj, _ => by
    have : j = f := by omega
    subst this
    rw [law_263, if_neg (by rw [ofNat_lt (by omega) (by omega)]; omega)]
  | m + 1, j, N + 1, hj, hN => by
    have c4 := h.st3 (f := j) (by omega)
    rw [law_263, if_pos (by rw [ofNat_lt (by omega) (by omega)]; omega), frameState_ok h, Option.bind_some]
    unfold aState
    rw [aFrame_nat (show j < 8 by omega)]
    dsimp only
    rw [if_neg (show ¬ Int32.ofNat (a.1 j) = 0 from fun w => e j (by omega) ((enc_inj (y := 0) (by omega) (by omega)).mp w)), ofNat_succ]
    exact free_loop h hf e v2 v3 v4 v5 v6 m (j + 1) N (by omega) (by omega)
theorem cnt_one {a : Abs} {x f : Nat} (hx : x < 64) (hp : a.2.2 x = none) (h0 : aCnt a f = 0) (st : Nat → Nat) (val : Nat → Int32) : aCnt (st, val, aupd a.2.2 x (some f)) f = 1 := by
  have k := countP_upd a.2.2 (fun o => decide (o = some f)) x (some f) 64 hx
  rw [hp] at k
  unfold aCnt at h0 ⊢
  dsimp only at k ⊢
  rw [h0] at k
  simpa using k
theorem free_zero {a : Abs} : Int32.ofNat (aFree a) = 0 ↔ lowFree a.1 = none := by
  have fl : aFree a ≤ 8 := by unfold aFree; exact Nat.le_trans List.countP_le_length (by simp)
  rw [show (Int32.ofNat (aFree a) = 0 ↔ aFree a = 0) from enc_inj (y := 0) (by omega) (by omega)]
  unfold aFree lowFree
  rw [List.countP_eq_zero, List.find?_eq_none]
theorem turn (n : Nat) (q : List Int32) (hq : q.length ≤ 260) {k : Nat} {t : S} {a : Abs} {pg u r p : Nat} (hk : k + 4 ≤ q.length) (h : R t a) (c : Cs a pg u r p) : Q (fun v2 v3 v4 v5 v6 q t0 => law_24 n v2 v3 v4 v5 v6 q t0) k q (law_24 (n + 1) (Int32.ofNat pg) (Int32.ofNat u) (Int32.ofNat r) (Int32.ofNat p) (Int32.ofNat k) q t) := by
  have lt3' : (Int32.ofNat k + 3) < q.length.toInt32 := by
    rw [show Int32.ofNat k + 3 = Int32.ofNat (k + 3) from ofNat_lit k 3]; exact (ofNat_lt (by omega) (by omega)).mpr (by omega)
  obtain ⟨x0, e0⟩ := ix_some q (k := k) (by omega) (by omega)
  obtain ⟨x1, e1⟩ := ix_some q (k := k + 1) (by omega) (by omega)
  obtain ⟨x2, e2⟩ := ix_some q (k := k + 2) (by omega) (by omega)
  obtain ⟨w, e3⟩ := ix_some q (k := k + 3) (by omega) (by omega)
  obtain ⟨P, hP, eP⟩ := arg5 x1
  obtain ⟨V, hV, eV⟩ := arg5 x2
  obtain ⟨F, hF, eF⟩ := arg9 x1
  obtain ⟨O, hO, eO⟩ := arg9 x0
  rw [law_24, if_pos lt3', e0, Option.bind_some, ofNat_lit, e1, Option.bind_some, ofNat_lit, e2, Option.bind_some, ofNat_lit, e3, Option.bind_some, eP, eV, eF, eO, frameOf_ok h, Option.bind_some, frameState_ok h, Option.bind_some]
  generalize (fun v2 v3 v4 v5 v6 q t0 => law_24 n v2 v3 v4 v5 v6 q t0) = K
  have sl := aSlot5 hP hV
  have sub8 : ∀ o f, a.2.2 o = some f → f < 8 := fun o f e => (h.slot e).1
  by_cases o0 : Int32.ofNat O = 0
  · rw [if_pos o0]
    obtain ⟨t', et, Rt⟩ := mapNew_ok h (Int32.ofNat P) (Int32.ofNat V) w
    rw [et, Option.bind_some]
    dsimp only
    unfold law_150 law_293
    by_cases hs : P < 4 ∧ V < 4
    · rw [if_pos hs] at sl
      rw [if_neg (fun z => (lt3 hP).mp z hs.1), if_neg (fun z => (lt3 hV).mp z hs.2)]
      have fr : aFr a (Int32.ofNat P) (Int32.ofNat V) = a.2.2 (P * 16 + V) := by unfold aFr; rw [sl]
      rw [fr]
      cases hp : a.2.2 (P * 16 + V) with
      | some f =>
        have hf := sub8 _ _ hp
        have am : aMapNew a (Int32.ofNat P) (Int32.ofNat V) w = (-2, a) := by unfold aMapNew; rw [sl]; dsimp only; rw [hp]
        rw [am] at Rt ⊢
        rw [if_neg (show ¬ pcode (some f) = -1 from fun z => absurd (show (-1 : Int32) < 0 by decide) (by rw [← z]; exact ofNat_nonneg (by omega))), if_pos rfl]
        exact tail Rt c
      | none =>
        rw [if_pos (show pcode none = -1 from rfl), freeCount_ok h]
        cases hl : lowFree a.1 with
        | none =>
          have am : aMapNew a (Int32.ofNat P) (Int32.ofNat V) w = (-4, a) := by unfold aMapNew; rw [sl]; dsimp only; rw [hp]; dsimp only; rw [hl]
          rw [am] at Rt ⊢
          rw [if_pos (free_zero.mpr hl), if_pos rfl]
          exact tail Rt c
        | some f =>
          obtain ⟨hf, sf⟩ := lowFree_st hl
          have am : aMapNew a (Int32.ofNat P) (Int32.ofNat V) w = (Int32.ofNat f, (aupd a.1 f 1, aupd a.2.1 f w, aupd a.2.2 (P * 16 + V) (some f))) := by unfold aMapNew; rw [sl]; dsimp only; rw [hp]; dsimp only; rw [hl]
          rw [am] at Rt ⊢
          dsimp only at Rt ⊢
          have fr' : aFr (aupd a.1 f 1, aupd a.2.1 f w, aupd a.2.2 (P * 16 + V) (some f)) (Int32.ofNat P) (Int32.ofNat V) = some f := by unfold aFr; rw [sl]; dsimp only; unfold aupd; rw [if_pos rfl]
          have uf : (aupd a.2.1 f w) f = w := by unfold aupd; rw [if_pos rfl]
          have us : (aupd a.1 f 1) f = 1 := by unfold aupd; rw [if_pos rfl]
          rw [if_neg (fun z => by have := free_zero.mp z; rw [hl] at this; cases this), if_neg (ofNat_nonneg (by omega)), if_neg (show ¬ (7 : Int32) < Int32.ofNat f from fun z => by rw [show (7 : Int32) = Int32.ofNat 7 from rfl, ofNat_lt (by omega) (by omega)] at z; omega), frameOf_ok Rt, Option.bind_some, fr', if_pos (show pcode (some f) = Int32.ofNat f from rfl), read_ok Rt, Option.bind_some]
          have rd : aRead (aupd a.1 f 1, aupd a.2.1 f w, aupd a.2.2 (P * 16 + V) (some f)) (Int32.ofNat P) (Int32.ofNat V) = w := by unfold aRead; rw [fr']; exact uf
          have mc : aCount (aupd a.1 f 1, aupd a.2.1 f w, aupd a.2.2 (P * 16 + V) (some f)) (Int32.ofNat f) = 1 := by unfold aCount; rw [aFrame_nat hf]; dsimp only; rw [cnt_one (by omega) hp (h.empty hf (Or.inl sf))]; rfl
          have sc : aState (aupd a.1 f 1, aupd a.2.1 f w, aupd a.2.2 (P * 16 + V) (some f)) (Int32.ofNat f) = 1 := by unfold aState; rw [aFrame_nat hf]; dsimp only; rw [us]; rfl
          have vc : aValue (aupd a.1 f 1, aupd a.2.1 f w, aupd a.2.2 (P * 16 + V) (some f)) (Int32.ofNat f) = w := by unfold aValue; rw [aFrame_nat hf]; exact uf
          rw [rd, if_pos rfl, mapCount_ok Rt, Option.bind_some, frameState_ok Rt, frameValue_ok Rt, mc, if_pos rfl, Option.bind_some, sc, if_pos rfl, Option.bind_some, vc, if_pos rfl]
          have lf : ∀ g, g < f → (aupd a.1 f 1) g ≠ 0 := fun g hg => by
            unfold aupd
            rw [if_neg (by omega)]
            unfold lowFree at hl
            rw [List.find?_range_eq_some] at hl
            simpa using hl.2.2 g hg
          rw [show (0 : Int32) = Int32.ofNat 0 from rfl, free_loop Rt hf lf _ _ _ _ _ f 0 BIG (by omega) (by unfold BIG; omega)]
          unfold law_287 law_293
          rw [ofNat_succ, ofNat_succ]
          refine tail Rt ?_
          have c1 : Cs (aupd a.1 f 1, aupd a.2.1 f w, a.2.2) pg (u + 1) r p := Cs.st (st := a.1) (val := a.2.1) (pf := a.2.2) c hf (by rw [sf]; simp [pU]) (by rw [sf]; simp [pR]) (by rw [sf]; simp [pP])
          exact c1.pg (by omega) (by rw [hp]; simp)
    · rw [if_neg hs] at sl
      have am : aMapNew a (Int32.ofNat P) (Int32.ofNat V) w = (-1, a) := by unfold aMapNew; rw [sl]
      rw [am] at Rt ⊢
      dsimp only at Rt ⊢
      rw [if_pos rfl]
      by_cases z : P < 4
      · rw [if_neg (fun y => (lt3 hP).mp y z), if_pos ((lt3 hV).mpr (fun y => hs ⟨z, y⟩))]
        exact tail Rt c
      · rw [if_pos ((lt3 hP).mpr z)]
        exact tail Rt c
  rw [if_neg o0]
  by_cases o1 : Int32.ofNat O = (1 : Int32)
  · rw [if_pos o1]
    obtain ⟨A, hA, eA⟩ := arg3 w
    obtain ⟨B, hB, eB⟩ := arg3 (w >>> ((2 : Int32) &&& 31))
    rw [eA, eB, frameOf_ok h, Option.bind_some]
    obtain ⟨t', et, Rt⟩ := share_ok h (Int32.ofNat P) (Int32.ofNat V) (Int32.ofNat A) (Int32.ofNat B)
    rw [et, Option.bind_some]
    unfold law_366 law_380 law_415
    dsimp only
    have ss := aSlot_nat hA hB
    have fs : aFr a (Int32.ofNat A) (Int32.ofNat B) = a.2.2 (A * 16 + B) := by unfold aFr; rw [ss]
    rw [fs]
    by_cases hs : P < 4 ∧ V < 4
    · rw [if_pos hs] at sl
      rw [if_neg (fun z => (lt3 hP).mp z hs.1), if_neg (fun z => (lt3 hV).mp z hs.2)]
      have fr : aFr a (Int32.ofNat P) (Int32.ofNat V) = a.2.2 (P * 16 + V) := by unfold aFr; rw [sl]
      rw [fr]
      cases hp : a.2.2 (P * 16 + V) with
      | some f =>
        have hf := sub8 _ _ hp
        have am : aShare a (Int32.ofNat P) (Int32.ofNat V) (Int32.ofNat A) (Int32.ofNat B) = (-2, a) := by unfold aShare; rw [sl, ss]; dsimp only; rw [hp]
        rw [am] at Rt ⊢
        dsimp only at Rt ⊢
        rw [if_neg (show ¬ pcode (some f) = -1 from fun z => absurd (show (-1 : Int32) < 0 by decide) (by rw [← z]; exact ofNat_nonneg (by omega))), if_pos (show (-2 : Int32) < 0 by decide), if_pos rfl, if_pos rfl]
        exact tail Rt c
      | none =>
        rw [if_pos (show pcode none = -1 from rfl)]
        cases hl : a.2.2 (A * 16 + B) with
        | none =>
          have am : aShare a (Int32.ofNat P) (Int32.ofNat V) (Int32.ofNat A) (Int32.ofNat B) = (-3, a) := by unfold aShare; rw [sl, ss]; dsimp only; rw [hp]; dsimp only; rw [hl]
          rw [am] at Rt ⊢
          dsimp only at Rt ⊢
          rw [if_pos (show pcode none < 0 by decide), if_pos (show (-3 : Int32) < 0 by decide), if_pos rfl, if_pos rfl]
          exact tail Rt c
        | some f =>
          have hf := sub8 _ _ hl
          have am : aShare a (Int32.ofNat P) (Int32.ofNat V) (Int32.ofNat A) (Int32.ofNat B) = (Int32.ofNat f, (a.1, a.2.1, aupd a.2.2 (P * 16 + V) (some f))) := by unfold aShare; rw [sl, ss]; dsimp only; rw [hp]; dsimp only; rw [hl]
          rw [am] at Rt ⊢
          dsimp only at Rt ⊢
          have fr' : aFr (a.1, a.2.1, aupd a.2.2 (P * 16 + V) (some f)) (Int32.ofNat P) (Int32.ofNat V) = some f := by unfold aFr; rw [sl]; dsimp only; unfold aupd; rw [if_pos rfl]
          rw [if_neg (show ¬ pcode (some f) < 0 from ofNat_nonneg (by omega)), if_neg (show ¬ Int32.ofNat f < 0 from ofNat_nonneg (by omega)), if_pos rfl, if_neg (by decide), if_pos (show Int32.ofNat f = pcode (some f) from rfl), frameOf_ok Rt, Option.bind_some, fr', if_pos (show pcode (some f) = Int32.ofNat f from rfl), ofNat_succ]
          exact tail Rt (Cs.pg (st := a.1) (val := a.2.1) (pf := a.2.2) c (by omega) (by rw [hp]; simp))
    · rw [if_neg hs] at sl
      have am : aShare a (Int32.ofNat P) (Int32.ofNat V) (Int32.ofNat A) (Int32.ofNat B) = (-1, a) := by unfold aShare; rw [sl]
      rw [am] at Rt ⊢
      dsimp only at Rt ⊢
      rw [if_pos (show (-1 : Int32) < 0 by decide)]
      by_cases z : P < 4
      · rw [if_neg (fun y => (lt3 hP).mp y z), if_pos ((lt3 hV).mpr (fun y => hs ⟨z, y⟩)), if_pos rfl, if_pos rfl]
        exact tail Rt c
      · rw [if_pos ((lt3 hP).mpr z), if_pos rfl, if_pos rfl]
        exact tail Rt c
  rw [if_neg o1]
  by_cases o2 : Int32.ofNat O = (2 : Int32)
  · rw [if_pos o2]
    rw [mapCount_ok h, Option.bind_some, frameState_ok h, Option.bind_some]
    obtain ⟨t', et, Rt⟩ := unmap_ok h (Int32.ofNat P) (Int32.ofNat V)
    rw [et, Option.bind_some]
    unfold law_495
    dsimp only
    by_cases hs : P < 4 ∧ V < 4
    · rw [if_pos hs] at sl
      have fr : aFr a (Int32.ofNat P) (Int32.ofNat V) = a.2.2 (P * 16 + V) := by unfold aFr; rw [sl]
      rw [fr]
      cases hp : a.2.2 (P * 16 + V) with
      | none =>
        have am : aUnmap a (Int32.ofNat P) (Int32.ofNat V) = (-3, a) := by unfold aUnmap; rw [sl]; dsimp only; rw [hp]
        rw [am] at Rt ⊢
        rw [if_pos (show pcode none < 0 by decide), if_pos (by dsimp only; decide)]
        exact tail Rt c
      | some f =>
        have hf := sub8 _ _ hp
        have oc := others_cnt h hp
        have l64 := aCnt_le a f
        have c4 := h.st3 hf
        have up := h.pos hp
        have pg0 : ∃ g, pg = g + 1 := by
          have k := countP_upd a.2.2 Option.isSome (P * 16 + V) none 64 (by omega)
          rw [hp] at k
          have := c.1
          unfold nPg at this
          simp at k
          exact ⟨pg - 1, by omega⟩
        obtain ⟨g, rfl⟩ := pg0
        have c1 : Cs (a.1, a.2.1, aupd a.2.2 (P * 16 + V) none) g u r p := Cs.pg (st := a.1) (val := a.2.1) (pf := a.2.2) c (by omega) (by rw [hp]; simp)
        rw [if_neg (show ¬ pcode (some f) < 0 from ofNat_nonneg (by omega))]
        have ac : aCount a (pcode (some f)) = Int32.ofNat (aCnt a f) := by unfold aCount; rw [show aFrame (pcode (some f)) = some f from aFrame_nat hf]
        have as' : aState a (pcode (some f)) = Int32.ofNat (a.1 f) := by unfold aState; rw [show aFrame (pcode (some f)) = some f from aFrame_nat hf]
        rw [ac, as', dec1]
        by_cases o : others a.2.2 (P * 16 + V) f = true
        · have am : aUnmap a (Int32.ofNat P) (Int32.ofNat V) = (Int32.ofNat f, (a.1, a.2.1, aupd a.2.2 (P * 16 + V) none)) := by unfold aUnmap; rw [sl]; dsimp only; rw [hp]; dsimp only; rw [if_pos o]
          rw [am] at Rt ⊢
          have n1 : ¬ Int32.ofNat (aCnt a f) = 1 := fun z => (oc.mp o) ((enc_inj (y := 1) (by omega) (by omega)).mp z)
          rw [if_pos (show Int32.ofNat f = pcode (some f) from rfl), if_neg n1, if_neg n1]
          exact tail Rt c1
        · have c1' : aCnt a f = 1 := by
            by_cases z : aCnt a f = 1
            · exact z
            · exact absurd (oc.mpr z) o
          have am : aUnmap a (Int32.ofNat P) (Int32.ofNat V) = (Int32.ofNat f, (aupd a.1 f 0, aupd a.2.1 f 0, aupd a.2.2 (P * 16 + V) none)) := by unfold aUnmap; rw [sl]; dsimp only; rw [hp]; dsimp only; rw [if_neg o]
          rw [am] at Rt ⊢
          dsimp only at Rt
          rw [if_pos (show Int32.ofNat f = pcode (some f) from rfl), c1', if_pos (show Int32.ofNat 1 = 1 from rfl), if_pos (show Int32.ofNat 1 = 1 from rfl)]
          have ku := countP_upd a.1 pU f 0 8 hf
          have kp := countP_upd a.1 pP f 0 8 hf
          have cu := c.2.1
          have cp := c.2.2.2
          unfold nU at cu
          unfold nP at cp
          rcases up with z | z
          · rw [z] at ku kp
            simp [pU] at ku
            obtain ⟨u', rfl⟩ : ∃ u', u = u' + 1 := ⟨u - 1, by simp only [pU] at cu; omega⟩
            rw [z, if_neg (show ¬ Int32.ofNat 1 = 2 by decide), dec1]
            exact tail Rt (Cs.st (st := a.1) (val := a.2.1) c1 hf (by rw [z]; simp [pU]) (by rw [z]; simp [pR]) (by rw [z]; simp [pP]))
          · rw [z] at ku kp
            simp [pU] at ku
            simp [pP] at kp
            obtain ⟨u', rfl⟩ : ∃ u', u = u' + 1 := ⟨u - 1, by simp only [pU] at cu; omega⟩
            obtain ⟨p', rfl⟩ : ∃ p', p = p' + 1 := ⟨p - 1, by simp only [pP] at cp; omega⟩
            rw [z, if_pos (show Int32.ofNat 2 = 2 from rfl), dec1, dec1]
            exact tail Rt (Cs.st (st := a.1) (val := a.2.1) c1 hf (by rw [z]; simp [pU]) (by rw [z]; simp [pR]) (by rw [z]; simp [pP]))
    · rw [if_neg hs] at sl
      have fr : aFr a (Int32.ofNat P) (Int32.ofNat V) = none := by unfold aFr; rw [sl]
      have am : aUnmap a (Int32.ofNat P) (Int32.ofNat V) = (-1, a) := by unfold aUnmap; rw [sl]
      rw [am] at Rt ⊢
      rw [fr, if_pos (show pcode none < 0 by decide), if_pos (by dsimp only; decide)]
      exact tail Rt c
  rw [if_neg o2]
  by_cases o3 : Int32.ofNat O = (3 : Int32)
  · rw [if_pos o3]
    obtain ⟨t', et, Rt⟩ := write_ok h (Int32.ofNat P) (Int32.ofNat V) w
    rw [et, Option.bind_some]
    unfold law_528 law_564
    dsimp only
    cases hp : aFr a (Int32.ofNat P) (Int32.ofNat V) with
    | none =>
      have am : aWrite a (Int32.ofNat P) (Int32.ofNat V) w = (0, a) := by unfold aWrite; rw [hp]
      rw [am] at Rt ⊢
      dsimp only
      rw [if_pos (show pcode none < 0 by decide), if_pos rfl, if_pos rfl]
      exact tail Rt c
    | some f =>
      have hf := aFr_lt h hp
      have am : aWrite a (Int32.ofNat P) (Int32.ofNat V) w = (1, (a.1, aupd a.2.1 f w, a.2.2)) := by unfold aWrite; rw [hp]
      rw [am] at Rt ⊢
      dsimp only at Rt ⊢
      have uf : (aupd a.2.1 f w) f = w := by unfold aupd; rw [if_pos rfl]
      have rd : aRead (a.1, aupd a.2.1 f w, a.2.2) (Int32.ofNat P) (Int32.ofNat V) = w := by
        unfold aRead
        rw [show aFr (a.1, aupd a.2.1 f w, a.2.2) (Int32.ofNat P) (Int32.ofNat V) = some f from hp]
        exact uf
      rw [if_neg (show ¬ pcode (some f) < 0 from ofNat_nonneg (by omega)), if_pos rfl, if_neg (by decide), read_ok Rt, Option.bind_some, rd, if_pos rfl, frameValue_ok Rt, Option.bind_some]
      rw [show aValue (a.1, aupd a.2.1 f w, a.2.2) (pcode (some f)) = w by unfold aValue; rw [show aFrame (pcode (some f)) = some f from aFrame_nat hf]; exact uf, if_pos rfl]
      exact tail Rt c
  have aS : aState a (Int32.ofNat F) = match aFrame (Int32.ofNat F) with | none => -1 | some f => Int32.ofNat (a.1 f) := rfl
  have fc : (aFrame (Int32.ofNat F) = none) ∨ (F < 8 ∧ aFrame (Int32.ofNat F) = some F) := by
    by_cases z : F < 8
    · exact Or.inr ⟨z, aFrame_nat z⟩
    · left
      have : F = 8 := by omega
      subst this
      decide
  rw [if_neg o3]
  by_cases o4 : Int32.ofNat O = (4 : Int32)
  · rw [if_pos o4]
    obtain ⟨t', et, Rt⟩ := pin_ok h (Int32.ofNat F)
    rw [et, Option.bind_some]
    unfold law_594 law_607
    dsimp only
    rcases fc with z | ⟨hf, z⟩
    · have am : aTurn a (Int32.ofNat F) 1 2 = (0, a) := by unfold aTurn; rw [z]
      rw [z] at aS
      rw [am] at Rt ⊢
      dsimp only
      dsimp only at aS
      rw [aS, if_neg (show ¬ (-1 : Int32) = 1 by decide), if_pos rfl, if_pos rfl]
      exact tail Rt c
    · rw [z] at aS
      dsimp only at aS
      have c4 := h.st3 hf
      by_cases y : a.1 F = 1
      · have am : aTurn a (Int32.ofNat F) 1 2 = (1, (aupd a.1 F 2, a.2)) := by unfold aTurn; rw [z]; dsimp only; rw [if_pos y]
        rw [am] at Rt ⊢
        dsimp only at Rt ⊢
        rw [aS, y, if_pos (show Int32.ofNat 1 = 1 from rfl), if_pos rfl, if_neg (by decide), ofNat_succ]
        exact tail Rt (Cs.st (st := a.1) (val := a.2.1) (pf := a.2.2) c hf (by rw [y]; simp [pU]) (by rw [y]; simp [pR]) (by rw [y]; simp [pP]))
      · have am : aTurn a (Int32.ofNat F) 1 2 = (0, a) := by unfold aTurn; rw [z]; dsimp only; rw [if_neg y]
        rw [am] at Rt ⊢
        dsimp only at Rt ⊢
        rw [aS, if_neg (show ¬ Int32.ofNat (a.1 F) = 1 from fun x => y ((enc_inj (y := 1) (by omega) (by omega)).mp x)), if_pos rfl, if_pos rfl]
        exact tail Rt c
  rw [if_neg o4]
  by_cases o5 : Int32.ofNat O = (5 : Int32)
  · rw [if_pos o5]
    obtain ⟨t', et, Rt⟩ := unpin_ok h (Int32.ofNat F)
    rw [et, Option.bind_some]
    unfold law_637 law_650
    dsimp only
    rcases fc with z | ⟨hf, z⟩
    · have am : aTurn a (Int32.ofNat F) 2 1 = (0, a) := by unfold aTurn; rw [z]
      rw [z] at aS
      rw [am] at Rt ⊢
      dsimp only
      dsimp only at aS
      rw [aS, if_neg (show ¬ (-1 : Int32) = 2 by decide), if_pos rfl, if_pos rfl]
      exact tail Rt c
    · rw [z] at aS
      dsimp only at aS
      have c4 := h.st3 hf
      by_cases y : a.1 F = 2
      · have am : aTurn a (Int32.ofNat F) 2 1 = (1, (aupd a.1 F 1, a.2)) := by unfold aTurn; rw [z]; dsimp only; rw [if_pos y]
        rw [am] at Rt ⊢
        dsimp only at Rt ⊢
        have kp := countP_upd a.1 pP F 1 8 hf
        have cp := c.2.2.2
        unfold nP at cp
        rw [y] at kp
        simp [pP] at kp
        obtain ⟨p', rfl⟩ : ∃ p', p = p' + 1 := ⟨p - 1, by simp only [pP] at cp; omega⟩
        rw [aS, y, if_pos (show Int32.ofNat 2 = 2 from rfl), if_pos rfl, if_neg (by decide), dec1]
        exact tail Rt (Cs.st (st := a.1) (val := a.2.1) (pf := a.2.2) c hf (by rw [y]; simp [pU]) (by rw [y]; simp [pR]) (by rw [y]; simp [pP]))
      · have am : aTurn a (Int32.ofNat F) 2 1 = (0, a) := by unfold aTurn; rw [z]; dsimp only; rw [if_neg y]
        rw [am] at Rt ⊢
        dsimp only at Rt ⊢
        rw [aS, if_neg (show ¬ Int32.ofNat (a.1 F) = 2 from fun x => y ((enc_inj (y := 2) (by omega) (by omega)).mp x)), if_pos rfl, if_pos rfl]
        exact tail Rt c
  rw [if_neg o5]
  by_cases o6 : Int32.ofNat O = (6 : Int32)
  · rw [if_pos o6]
    obtain ⟨A, hA, eA⟩ := arg3 x1
    rw [eA]
    obtain ⟨t', et, Rt⟩ := alloc_ok h (Int32.ofNat A)
    rw [et, Option.bind_some, pow_sh ⟨A, by omega⟩]
    unfold law_724
    dsimp only
    have n0 : ¬ Int32.ofNat A < 0 := ofNat_nonneg (by omega)
    have n6 : ¬ 6 < Int32.ofNat A := fun z => by rw [show (6 : Int32) = Int32.ofNat 6 from rfl, ofNat_lt (by omega) (by omega)] at z; omega
    cases hl : lowRun a.1 A with
    | none =>
      have am : aAlloc a (Int32.ofNat A) = (-4, a) := by unfold aAlloc; rw [if_neg n0, if_neg n6, ofNat_clamp (by omega), hl]
      rw [am] at Rt ⊢
      dsimp only at Rt ⊢
      rw [if_pos (by decide), if_pos rfl]
      exact tail Rt c
    | some f =>
      have am : aAlloc a (Int32.ofNat A) = (Int32.ofNat f, ((resv a.1 a.2.1 f (2 ^ A)).1, (resv a.1 a.2.1 f (2 ^ A)).2, a.2.2)) := by unfold aAlloc; rw [if_neg n0, if_neg n6, ofNat_clamp (by omega), hl]
      rw [am] at Rt ⊢
      dsimp only at Rt ⊢
      have hr : runAt a.1 A f = true := by unfold lowRun at hl; rw [List.find?_range_eq_some] at hl; exact hl.1
      obtain ⟨y1, y2, y3⟩ := runAt_iff hr
      have hf : f < 8 := by have := Nat.two_pow_pos A; omega
      have md : ∀ A : Fin 4, ∀ f : Fin 8, f.val % 2 ^ A.val = 0 → ¬ (Int32.ofNat (2 ^ A.val) = 0) ∧ Int32.ofNat f.val % Int32.ofNat (2 ^ A.val) = 0 := by decide +kernel
      obtain ⟨d1, d2⟩ := md ⟨A, hA⟩ ⟨f, hf⟩ y1
      dsimp only at d1 d2
      rw [if_neg (show ¬ Int32.ofNat f < 0 from ofNat_nonneg (by omega)), if_neg d1, if_pos d2, ofNat_add', if_neg (show ¬ (8 : Int32) < Int32.ofNat (f + 2 ^ A) from fun z => by rw [show (8 : Int32) = Int32.ofNat 8 from rfl, ofNat_lt (by omega) (by omega)] at z; omega), ofNat_add']
      exact tail Rt (cs_resv c _ y2 y3)
  rw [if_neg o6]
  by_cases o7 : Int32.ofNat O = (7 : Int32)
  · rw [if_pos o7]
    obtain ⟨t', et, Rt⟩ := release_ok h (Int32.ofNat F)
    rw [et, Option.bind_some]
    unfold law_755 law_768
    dsimp only
    rcases fc with z | ⟨hf, z⟩
    · have am : aRelease a (Int32.ofNat F) = (0, a) := by unfold aRelease; rw [z]
      rw [z] at aS
      rw [am] at Rt ⊢
      dsimp only
      dsimp only at aS
      rw [aS, if_neg (show ¬ (-1 : Int32) = 3 by decide), if_pos rfl, if_pos rfl]
      exact tail Rt c
    · rw [z] at aS
      dsimp only at aS
      have c4 := h.st3 hf
      by_cases y : a.1 F = 3
      · have am : aRelease a (Int32.ofNat F) = (1, (aupd a.1 F 0, aupd a.2.1 F 0, a.2.2)) := by unfold aRelease; rw [z]; dsimp only; rw [if_pos y]
        rw [am] at Rt ⊢
        dsimp only at Rt ⊢
        have kp := countP_upd a.1 pR F 0 8 hf
        have cp := c.2.2.1
        unfold nR at cp
        rw [y] at kp
        simp [pR] at kp
        obtain ⟨r', rfl⟩ : ∃ r', r = r' + 1 := ⟨r - 1, by simp only [pR] at cp; omega⟩
        rw [aS, y, if_pos (show Int32.ofNat 3 = 3 from rfl), if_pos rfl, if_neg (by decide), dec1]
        exact tail Rt (Cs.st (st := a.1) (val := a.2.1) (pf := a.2.2) c hf (by rw [y]; simp [pU]) (by rw [y]; simp [pR]) (by rw [y]; simp [pP]))
      · have am : aRelease a (Int32.ofNat F) = (0, a) := by unfold aRelease; rw [z]; dsimp only; rw [if_neg y]
        rw [am] at Rt ⊢
        dsimp only at Rt ⊢
        rw [aS, if_neg (show ¬ Int32.ofNat (a.1 F) = 3 from fun x => y ((enc_inj (y := 3) (by omega) (by omega)).mp x)), if_pos rfl, if_pos rfl]
        exact tail Rt c
  rw [if_neg o7]
  · skip
    obtain ⟨M, hM, eM⟩ := and_small x1 7 (by omega)
    rw [show (7 : Int32) = Int32.ofNat 7 from rfl, eM]
    obtain ⟨t', et, Rt⟩ := compact_ok h (Int32.ofNat M - 1)
    rw [et, Option.bind_some]
    unfold law_806
    dsimp only
    have lm : ∀ M : Fin 8, (if (Int32.ofNat M.val - 1) < 0 then (0 : Int32) else Int32.ofNat M.val - 1) = Int32.ofNat (lim64 (Int32.ofNat M.val - 1)) ∧ lim64 (Int32.ofNat M.val - 1) ≤ 7 := by decide
    obtain ⟨m1, m2⟩ := lm ⟨M, by omega⟩
    dsimp only at m1 m2
    have gl := go_le 9 a 0 7 0 (lim64 (Int32.ofNat M - 1)) (by omega)
    rw [m1]
    unfold aCompact at Rt ⊢
    dsimp only at Rt ⊢
    rw [if_neg (ofNat_nonneg (by omega)), if_neg (by rw [ofNat_lt (by omega) (by omega)]; omega)]
    exact tail Rt (cs_go 9 a 0 7 0 _ (by omega) c)
theorem law_true (q : List Int32) (hq : q.length ≤ 260) : ∃ t, law q = some (1, t) := by
  obtain ⟨s, es, Rs⟩ := init_R
  unfold law
  rw [es, Option.bind_some]
  have lt3' : ∀ k, k ≤ 300 → ((Int32.ofNat k + 3) < q.length.toInt32 ↔ k + 3 < q.length) := fun k hk => by
    rw [show Int32.ofNat k + 3 = Int32.ofNat (k + 3) from ofNat_lit k 3]; exact ofNat_lt (by omega) (by omega)
  refine run_script (fun n v (a : Nat × Nat × Nat × Nat × S) => law_24 n (Int32.ofNat a.1) (Int32.ofNat a.2.1) (Int32.ofNat a.2.2.1) (Int32.ofNat a.2.2.2.1) v q a.2.2.2.2) 4 q.length (by omega) (fun o => ∃ t, o = some (1, t)) (fun _ u => ∃ a, R u.2.2.2.2 a ∧ Cs a u.1 u.2.1 u.2.2.1 u.2.2.2.1) ?_ ?_ BIG 0 (0, 0, 0, 0, s) (by unfold BIG; omega) (by omega) ⟨_, Rs, show nPg a0 = 0 by decide, show nU a0 = 0 by decide, show nR a0 = 0 by decide, show nP a0 = 0 by decide⟩
  · rintro n k ⟨pg, u, r, p, t⟩ hk ⟨a, h, c⟩
    dsimp only at h c
    right
    obtain ⟨pg', u', r', p', t', a', e, h', c'⟩ := turn n q hq hk h c
    exact ⟨(pg', u', r', p', t'), e, a', h', c'⟩
  · rintro n k ⟨pg, u, r, p, t⟩ hk hk' ⟨a, h⟩
    show ∃ t, law_24 (n + 1) _ _ _ _ _ _ _ = _
    rw [law_24, if_neg (fun z => by have := (lt3' k (by omega)).mp z; omega)]
    exact ⟨_, rfl⟩
set_option maxRecDepth 65536 in
set_option maxHeartbeats 40000000 in
theorem comes_1 {Post : Tables → Env → Array Value → State → Outcome → State → Prop} (hpost : ∀ tb e args s v u, (limb_1_1.after args s (.returned v) u = true ∧ limb_1_2.after args s (.returned v) u = true ∧ True) → FrameEnd s (.returned v) u (Jvm.fieldLocs frame_1_writes args s ++ Jvm.arrayLocs frame_1_arrays args s ++ Jvm.staticLocs frame_1_statics s) 32 1024 → Post tb e args s (.returned v) u) :
    ArmFor flags0 classFile x code maxLocals ret World_1 tables_1 room_1 Calls_1 rest_1 Pre_1 Post := by
  intro l hfl _ _ p e ha hc hk s m args below hf hA hF happ hP
  obtain ⟨hcalls, hrest, hpre⟩ := hP
  obtain ⟨-, -, -, hnamed, -, -, -, hat⟩ := (Spec.applies_iff hf).mp happ
  obtain ⟨hg, hn⟩ := and_e (Cond.before_iff.mp (show (Jvm.Cond.and given_1 narrow_1).before args s = true from hpre))
  obtain ⟨g0, b0⟩ := and_e hg
  have a0 := b0
  obtain ⟨w0, rfl⟩ : ∃ w0 : Value, args = #[w0] := by
    have hs : args.size = 1 := by simpa [Cond.value, given_1] using g0
    obtain ⟨L⟩ := args
    match L, hs with
    | [w0], _ => exact ⟨w0, rfl⟩
  have hw := fun d (hd : d ∈ tables_1) => atoms_spec (ws := Jvm.Cond.code x code maxLocals ret :: tables_1) hat d (List.mem_cons_of_mem _ hd)
  have hfit : Fit s := fun {y c} hc i hi => by
    obtain ⟨ha, rfl⟩ := Array.getElem?_eq_some_iff.mp hc
    have q := List.all_eq_true.mp ((Array.all_eq_true_iff_forall_mem.mp hF) _ (Array.getElem_mem ha)) i (List.mem_range.mpr hi)
    simpa [Array.getElem?_eq_getElem hi] using q
  obtain ⟨q1, q2⟩ := and_e hn
  obtain ⟨al, q, ei, A, hal, hlen⟩ := script_of hfit q1 q2
  obtain rfl : w0 = (.ref al) := Option.some.inj ei
  have hlen' : q.length ≤ 260 := by
    have e260 : (260 : Int32).toInt = 260 := rfl
    omega
  obtain ⟨t, ht⟩ := law_true q hlen'
  have C : Call PP m47 [.ref 0] (some q, []) (some (.int ((1 : Int32), t).1), (some q, [(8, ((1 : Int32), t).2)])) := call_of_go pl_1 rfl (fun h => by cases h) (law_ok q _ ht)
  obtain ⟨n, o, h1, h2, h3, _, L, rfl, ⟨rfl, N, _⟩, hq⟩ := C l s _ tables_1 al s.heap.size s.heap.size s.heap hw (facts1 hw) (Nat.le_refl _) (repW_some A hal) (Nat.zero_le _) (fun _ => ⟨rfl, rfl, rfl⟩) p e ha hc hk s m _ below hf ((Spec.applies_iff_loose hf).mp happ).1 ⟨rfl, State.Warmed39.refl s, rfl⟩ trivial
  refine ⟨n, _, h1, h2, h3, hpost _ _ _ _ _ _ ⟨Cond.after_iff.mpr rfl, Cond.after_iff.mpr (eq_i res_at (Term.int_eval (1)) rfl), trivial⟩ ⟨hq.1, hq.2.1, (hq.2.2.sift fun y hy => Or.inr (N y hy)).mono (by decide) (by decide)⟩⟩
theorem main_1_1 : Claimed_1_1 := comes_1 fun _ _ _ _ _ _ h hF => ⟨h.1, hF⟩
theorem main_1_2 : Claimed_1_2 := comes_1 fun _ _ _ _ _ _ h hF => ⟨h.2.1, hF⟩
end Jvm.Pilot.@@N@@
namespace Jvm.Pilot.@@N@@
open Jvm Jvm.ClassFile Sem Op Lib Jvm.Free Jvm.Stand Jvm.Pilot.@@N@@.Jvm.D
/-! MADE BY PROGRAM (witnessworld.py) out of the Statement's table words and the real class files: 11 classes; the members and pool entries that the words name. The judged class is class 1, her method 2. -/
namespace start1
open Jvm.ClassFile
def u (s : String) : CpInfo := .utf8 (stringToUtf16 s)
/-- a pool by its gaps: so many unusable entries, then the entry; so many at the end -/
def gap : Nat → List CpInfo → List CpInfo
  | 0, r => r
  | n + 1, r => .unusable :: gap n r
def poolList (es : List (Nat × CpInfo)) (last : Nat) : List CpInfo := es.foldr (fun e r => gap e.1 (e.2 :: r)) (gap last [])
def pool (es : List (Nat × CpInfo)) (last : Nat) : Array CpInfo := ⟨poolList es last⟩
def fileOf (pool : Array CpInfo) (this : Nat) (attrs : Array Attribute := #[]) (ms : Array MethodInfo := #[]) (fl : Nat := 33) (sup : Nat := 0) (ifs : Array Nat := #[]) (fds : Array FieldInfo := #[]) : ClassFile where
  minorVersion := 0
  majorVersion := 65
  constantPool := pool
  accessFlags := fl
  thisClass := this
  superClass := sup
  interfaces := ifs
  fields := fds
  methods := ms
  attributes := attrs
def plain (name : String) (sup : Option ClassId) : Class where
  name := name
  kind := .ordinary
  loader := none
  accessFlags := 33
  super := sup
  interfaces := #[]
  cf := none
  fields := #[]
  methods := #[]
  instanceTypes := #[]
  staticTypes := #[]
  resolved := #[]
  callSites := []
  init := .initialized
  statics := none
  mirror := none

def pool0 : Array CpInfo := pool [(5, u "<init>"), (0, u "()V"), (1, .class_ 10), (1, u "java/lang/Object")] 113

def k0c0 : Code := { maxStack := 0, maxLocals := 1, code := object_method_1_code, exceptionTable := #[], attributes := #[] }
def k0m0 : Method := { name := "<init>", desc := "()V", sig := { parameters := [], returnType := none }, accessFlags := 1, code := some k0c0 }
/-- java/lang/Object -/
def k0 : Class := { plain "java/lang/Object" none with
  accessFlags := 33
  interfaces := #[]
  cf := some (fileOf pool0 8 #[] #[{ accessFlags := 1, nameIndex := 5, descriptorIndex := 6, attributes := #[] }] 33 0 #[] #[])
  fields := #[]
  methods := #[k0m0]
  instanceTypes := #[]
  staticTypes := #[]
  resolved := Array.replicate 124 none
  statics := none }

def pool1 : Array CpInfo := pool [(2, .class_ 4), (1, u "java/lang/Object"), (0, u "<init>"), (0, u "()V"), (0, .methodref 8 9), (0, .class_ 10), (0, .nameAndType 11 12), (0, u "PageCompactorY"), (0, u "frameState"), (0, u "(I)I"), (0, .methodref 8 14), (0, .nameAndType 15 12), (0, u "mapCount"), (0, .methodref 8 17), (0, .nameAndType 18 12), (0, u "frameValue"), (0, .methodref 8 20), (0, .nameAndType 21 22), (0, u "freeCount"), (0, u "()I"), (0, .methodref 8 24), (0, .nameAndType 25 22), (0, u "largestFreeOrder"), (0, .methodref 8 27), (0, .nameAndType 5 28), (0, u "(II)V"), (0, .methodref 8 30), (0, .nameAndType 31 32), (0, u "frameOf"), (0, u "(II)I"), (0, .methodref 8 34), (0, .nameAndType 35 36), (0, u "mapNew"), (0, u "(III)I"), (0, .methodref 8 38), (0, .nameAndType 39 32), (0, u "read"), (0, .methodref 8 41), (0, .nameAndType 42 43), (0, u "share"), (0, u "(IIII)I"), (0, .methodref 8 45), (0, .nameAndType 46 32), (0, u "unmap"), (0, .methodref 8 48), (0, .nameAndType 49 50), (0, u "write"), (0, u "(III)Z"), (0, .methodref 8 52), (0, .nameAndType 53 54), (0, u "pin"), (0, u "(I)Z"), (0, .methodref 8 56), (0, .nameAndType 57 54), (0, u "unpin"), (0, .methodref 8 59), (0, .nameAndType 60 12), (0, u "allocBlock"), (0, .methodref 8 62), (0, .nameAndType 63 54), (0, u "release"), (0, .methodref 8 65), (0, .nameAndType 66 12), (0, u "compact"), (0, .methodref 68 69), (0, .class_ 70), (0, .nameAndType 71 72), (0, u "PageCompactorYL6"), (0, u "check"), (0, u "(LPageCompactorY;IIII)Z"), (3, u "law"), (0, u "([I)Z")] 4

def k1m0 : Method := { name := "<init>", desc := "()V", sig := { parameters := [], returnType := none }, accessFlags := 1, code := none }
def k1c1 : Code := { maxStack := 3, maxLocals := 13, code := method_2_code, exceptionTable := #[], attributes := #[] }
def k1m1 : Method := { name := "check", desc := "(LPageCompactorY;IIII)Z", sig := { parameters := [(.object "PageCompactorY"), .int, .int, .int, .int], returnType := some .boolean }, accessFlags := 10, code := some k1c1 }
def k1c2 : Code := { maxStack := 6, maxLocals := 19, code := code, exceptionTable := #[], attributes := #[] }
def k1m2 : Method := { name := "law", desc := "([I)Z", sig := { parameters := [(.array .int)], returnType := some .boolean }, accessFlags := 9, code := some k1c2 }
/-- PageCompactorYL6 -/
def k1 : Class := { plain "PageCompactorYL6" (some 0) with
  accessFlags := 33
  interfaces := #[]
  cf := some (fileOf pool1 68 #[] #[{ accessFlags := 1, nameIndex := 5, descriptorIndex := 6, attributes := #[] }, { accessFlags := 10, nameIndex := 71, descriptorIndex := 72, attributes := #[] }, { accessFlags := 9, nameIndex := 76, descriptorIndex := 77, attributes := #[] }] 33 2 #[] #[])
  fields := #[]
  methods := #[k1m0, k1m1, k1m2]
  instanceTypes := #[]
  staticTypes := #[]
  resolved := Array.replicate 82 none
  statics := none }

def pool2 : Array CpInfo := pool [(1, .methodref 2 3), (0, .class_ 4), (0, .nameAndType 5 6), (0, u "java/lang/Object"), (0, u "<init>"), (0, u "()V"), (0, .fieldref 8 9), (0, .class_ 10), (0, .nameAndType 11 12), (0, u "PageCompactorY"), (0, u "frameStates"), (0, u "[B"), (0, .fieldref 8 14), (0, .nameAndType 15 16), (0, u "frameValues"), (0, u "[I"), (0, .fieldref 8 18), (0, .nameAndType 19 16), (0, u "frameCounts"), (0, .fieldref 8 21), (0, .nameAndType 22 16), (0, u "pageFrame"), (0, .fieldref 8 24), (0, .nameAndType 25 16), (0, u "rmapHead"), (0, .fieldref 8 27), (0, .nameAndType 28 16), (0, u "rmapNext"), (0, .fieldref 8 30), (0, .nameAndType 31 16), (0, u "rmapPrev"), (0, .fieldref 8 33), (0, .nameAndType 34 35), (0, u "runSet"), (0, u "[J"), (0, .methodref 8 37), (0, .nameAndType 38 39), (0, u "clampInt"), (0, u "(III)I"), (0, .fieldref 8 41), (0, .nameAndType 42 43), (0, u "frameTotal"), (0, u "I"), (0, .fieldref 8 45), (0, .nameAndType 46 43), (0, u "pageTotal"), (0, .methodref 8 48), (0, .nameAndType 49 6), (0, u "resetAll"), (0, .methodref 8 51), (0, .nameAndType 52 53), (0, u "checkTarget"), (0, u "(II)I"), (0, .fieldref 8 55), (0, .nameAndType 56 57), (0, u "freeSet"), (0, u "J"), (0, .methodref 8 59), (0, .nameAndType 60 61), (0, u "lowestBit"), (0, u "(J)I"), (0, .methodref 8 63), (0, .nameAndType 64 65), (0, u "frameInRange"), (0, u "(I)Z"), (0, .methodref 8 67), (0, .nameAndType 68 53), (0, u "slotOf"), (0, .methodref 8 70), (0, .nameAndType 71 72), (0, u "enterState"), (0, u "(II)V"), (0, .methodref 8 74), (0, .nameAndType 75 72), (0, u "attachPage"), (0, .methodref 8 77), (0, .nameAndType 78 79), (0, u "pageInRange"), (0, u "(II)Z"), (0, .methodref 8 81), (0, .nameAndType 82 83), (0, u "detachPage"), (0, u "(I)I"), (0, .methodref 8 85), (0, .nameAndType 86 87), (0, u "freeFrame"), (0, u "(I)V"), (0, .methodref 8 89), (0, .nameAndType 90 53), (0, u "mappedFrame"), (0, .methodref 8 92), (0, .nameAndType 93 94), (0, u "freeRunsOfOrder"), (0, u "(I)J"), (0, .methodref 8 96), (0, .nameAndType 97 72), (0, u "reserveRun"), (0, .fieldref 8 99), (0, .nameAndType 100 43), (0, u "scanLimit"), (0, .fieldref 8 102), (0, .nameAndType 103 43), (0, u "scanMoved"), (0, .fieldref 8 105), (0, .nameAndType 106 43), (0, u "scanMigrate"), (0, .fieldref 8 108), (0, .nameAndType 109 43), (0, u "scanFree"), (0, .methodref 8 111), (0, .nameAndType 112 6), (0, u "advanceMigrateScanner"), (0, .methodref 8 114), (0, .nameAndType 115 6), (0, u "retreatFreeScanner"), (0, .methodref 8 117), (0, .nameAndType 118 119), (0, u "scannersDone"), (0, u "()Z"), (0, .methodref 8 121), (0, .nameAndType 122 72), (0, u "migrateFrame"), (0, .methodref 8 124), (0, .nameAndType 125 61), (0, u "bitCount"), (0, .methodref 8 127), (0, .nameAndType 128 6), (0, u "refreshRuns"), (0, .methodref 8 130), (0, .nameAndType 131 94), (0, u "lowMask"), (0, .fieldref 8 133), (0, .nameAndType 134 57), (0, u "mappedSet"), (0, .fieldref 8 136), (0, .nameAndType 137 57), (0, u "pinnedSet"), (0, .fieldref 8 139), (0, .nameAndType 140 57), (0, u "reservedSet"), (0, .fieldref 8 142), (0, .nameAndType 143 144), (0, u "runsStale"), (0, u "Z"), (0, .methodref 8 146), (0, .nameAndType 147 94), (0, u "bitOf"), (0, .long 18446744073709551615), (1, .methodref 8 151), (0, .nameAndType 152 87), (0, u "reserveFrame"), (0, .methodref 8 154), (0, .nameAndType 155 72), (0, u "rmapLink"), (0, .methodref 8 157), (0, .nameAndType 158 83), (0, u "rmapUnlink"), (0, .methodref 8 160), (0, .nameAndType 161 94), (0, u "alignMask"), (0, .long 6148914691236517205), (1, .long 1229782938247303441), (1, .long 72340172838076673), (1, .long 281479271743489), (1, .long 4294967297), (1, .methodref 8 173), (0, .nameAndType 174 175), (0, u "rangeMask"), (0, u "(II)J"), (0, .methodref 8 177), (0, .nameAndType 178 61), (0, u "highestBit"), (0, .methodref 8 180), (0, .nameAndType 181 72), (0, u "rmapTransfer"), (0, .long 4294967295), (1, .long 65535), (1, .long 255), (1, .long 15), (1, .long 3), (1, .long 3689348814741910323), (1, .long 1085102592571150095), (1, u "PROCESSES"), (2, u "MAX_ORDER"), (1, u "FREE"), (1, u "MAPPED"), (1, u "PINNED"), (1, u "RESERVED"), (1, u "NONE"), (1, u "ERR_ARG"), (0, u "ERR_MAPPED"), (1, u "ERR_UNMAPPED"), (1, u "ERR_FULL"), (3, u "mapNew"), (1, u "share"), (0, u "(IIII)I"), (0, u "unmap"), (0, u "write"), (0, u "(III)Z"), (0, u "read"), (0, u "frameOf"), (0, u "pin"), (0, u "unpin"), (0, u "allocBlock"), (0, u "release"), (0, u "compact"), (0, u "frameState"), (0, u "frameValue"), (0, u "mapCount"), (0, u "freeCount"), (0, u "()I"), (0, u "largestFreeOrder")] 2

def k2c0 : Code := { maxStack := 5, maxLocals := 3, code := prog_1_method_1_code, exceptionTable := #[], attributes := #[] }
def k2m0 : Method := { name := "<init>", desc := "(II)V", sig := { parameters := [.int, .int], returnType := none }, accessFlags := 1, code := some k2c0 }
def k2c1 : Code := { maxStack := 4, maxLocals := 7, code := prog_1_method_2_code, exceptionTable := #[], attributes := #[] }
def k2m1 : Method := { name := "mapNew", desc := "(III)I", sig := { parameters := [.int, .int, .int], returnType := some .int }, accessFlags := 1, code := some k2c1 }
def k2c2 : Code := { maxStack := 3, maxLocals := 8, code := prog_1_method_3_code, exceptionTable := #[], attributes := #[] }
def k2m2 : Method := { name := "share", desc := "(IIII)I", sig := { parameters := [.int, .int, .int, .int], returnType := some .int }, accessFlags := 1, code := some k2c2 }
def k2c3 : Code := { maxStack := 3, maxLocals := 5, code := prog_1_method_4_code, exceptionTable := #[], attributes := #[] }
def k2m3 : Method := { name := "unmap", desc := "(II)I", sig := { parameters := [.int, .int], returnType := some .int }, accessFlags := 1, code := some k2c3 }
def k2c4 : Code := { maxStack := 3, maxLocals := 5, code := prog_1_method_5_code, exceptionTable := #[], attributes := #[] }
def k2m4 : Method := { name := "write", desc := "(III)Z", sig := { parameters := [.int, .int, .int], returnType := some .boolean }, accessFlags := 1, code := some k2c4 }
def k2c5 : Code := { maxStack := 3, maxLocals := 4, code := prog_1_method_6_code, exceptionTable := #[], attributes := #[] }
def k2m5 : Method := { name := "read", desc := "(II)I", sig := { parameters := [.int, .int], returnType := some .int }, accessFlags := 1, code := some k2c5 }
def k2c6 : Code := { maxStack := 3, maxLocals := 4, code := prog_1_method_7_code, exceptionTable := #[], attributes := #[] }
def k2m6 : Method := { name := "frameOf", desc := "(II)I", sig := { parameters := [.int, .int], returnType := some .int }, accessFlags := 1, code := some k2c6 }
def k2c7 : Code := { maxStack := 3, maxLocals := 2, code := prog_1_method_8_code, exceptionTable := #[], attributes := #[] }
def k2m7 : Method := { name := "pin", desc := "(I)Z", sig := { parameters := [.int], returnType := some .boolean }, accessFlags := 1, code := some k2c7 }
def k2c8 : Code := { maxStack := 3, maxLocals := 2, code := prog_1_method_9_code, exceptionTable := #[], attributes := #[] }
def k2m8 : Method := { name := "unpin", desc := "(I)Z", sig := { parameters := [.int], returnType := some .boolean }, accessFlags := 1, code := some k2c8 }
def k2c9 : Code := { maxStack := 4, maxLocals := 5, code := prog_1_method_10_code, exceptionTable := #[], attributes := #[] }
def k2m9 : Method := { name := "allocBlock", desc := "(I)I", sig := { parameters := [.int], returnType := some .int }, accessFlags := 1, code := some k2c9 }
def k2c10 : Code := { maxStack := 2, maxLocals := 2, code := prog_1_method_11_code, exceptionTable := #[], attributes := #[] }
def k2m10 : Method := { name := "release", desc := "(I)Z", sig := { parameters := [.int], returnType := some .boolean }, accessFlags := 1, code := some k2c10 }
def k2c11 : Code := { maxStack := 5, maxLocals := 3, code := prog_1_method_12_code, exceptionTable := #[], attributes := #[] }
def k2m11 : Method := { name := "compact", desc := "(I)I", sig := { parameters := [.int], returnType := some .int }, accessFlags := 1, code := some k2c11 }
def k2c12 : Code := { maxStack := 2, maxLocals := 2, code := prog_1_method_13_code, exceptionTable := #[], attributes := #[] }
def k2m12 : Method := { name := "frameState", desc := "(I)I", sig := { parameters := [.int], returnType := some .int }, accessFlags := 1, code := some k2c12 }
def k2c13 : Code := { maxStack := 2, maxLocals := 3, code := prog_1_method_14_code, exceptionTable := #[], attributes := #[] }
def k2m13 : Method := { name := "frameValue", desc := "(I)I", sig := { parameters := [.int], returnType := some .int }, accessFlags := 1, code := some k2c13 }
def k2c14 : Code := { maxStack := 2, maxLocals := 2, code := prog_1_method_15_code, exceptionTable := #[], attributes := #[] }
def k2m14 : Method := { name := "mapCount", desc := "(I)I", sig := { parameters := [.int], returnType := some .int }, accessFlags := 1, code := some k2c14 }
def k2c15 : Code := { maxStack := 3, maxLocals := 1, code := prog_1_method_16_code, exceptionTable := #[], attributes := #[] }
def k2m15 : Method := { name := "freeCount", desc := "()I", sig := { parameters := [], returnType := some .int }, accessFlags := 1, code := some k2c15 }
def k2c16 : Code := { maxStack := 4, maxLocals := 2, code := prog_1_method_17_code, exceptionTable := #[], attributes := #[] }
def k2m16 : Method := { name := "largestFreeOrder", desc := "()I", sig := { parameters := [], returnType := some .int }, accessFlags := 1, code := some k2c16 }
def k2c17 : Code := { maxStack := 2, maxLocals := 4, code := prog_1_method_18_code, exceptionTable := #[], attributes := #[] }
def k2m17 : Method := { name := "clampInt", desc := "(III)I", sig := { parameters := [.int, .int, .int], returnType := some .int }, accessFlags := 2, code := some k2c17 }
def k2c18 : Code := { maxStack := 2, maxLocals := 3, code := prog_1_method_19_code, exceptionTable := #[], attributes := #[] }
def k2m18 : Method := { name := "pageInRange", desc := "(II)Z", sig := { parameters := [.int, .int], returnType := some .boolean }, accessFlags := 2, code := some k2c18 }
def k2c19 : Code := { maxStack := 2, maxLocals := 2, code := prog_1_method_20_code, exceptionTable := #[], attributes := #[] }
def k2m19 : Method := { name := "frameInRange", desc := "(I)Z", sig := { parameters := [.int], returnType := some .boolean }, accessFlags := 2, code := some k2c19 }
def k2c20 : Code := { maxStack := 2, maxLocals := 3, code := prog_1_method_21_code, exceptionTable := #[], attributes := #[] }
def k2m20 : Method := { name := "slotOf", desc := "(II)I", sig := { parameters := [.int, .int], returnType := some .int }, accessFlags := 2, code := some k2c20 }
def k2c21 : Code := { maxStack := 3, maxLocals := 4, code := prog_1_method_22_code, exceptionTable := #[], attributes := #[] }
def k2m21 : Method := { name := "checkTarget", desc := "(II)I", sig := { parameters := [.int, .int], returnType := some .int }, accessFlags := 2, code := some k2c21 }
def k2c22 : Code := { maxStack := 3, maxLocals := 5, code := prog_1_method_23_code, exceptionTable := #[], attributes := #[] }
def k2m22 : Method := { name := "mappedFrame", desc := "(II)I", sig := { parameters := [.int, .int], returnType := some .int }, accessFlags := 2, code := some k2c22 }
def k2c23 : Code := { maxStack := 3, maxLocals := 2, code := prog_1_method_24_code, exceptionTable := #[], attributes := #[] }
def k2m23 : Method := { name := "resetAll", desc := "()V", sig := { parameters := [], returnType := none }, accessFlags := 2, code := some k2c23 }
def k2c24 : Code := { maxStack := 7, maxLocals := 5, code := prog_1_method_25_code, exceptionTable := #[], attributes := #[] }
def k2m24 : Method := { name := "enterState", desc := "(II)V", sig := { parameters := [.int, .int], returnType := none }, accessFlags := 2, code := some k2c24 }
def k2c25 : Code := { maxStack := 3, maxLocals := 2, code := prog_1_method_26_code, exceptionTable := #[], attributes := #[] }
def k2m25 : Method := { name := "freeFrame", desc := "(I)V", sig := { parameters := [.int], returnType := none }, accessFlags := 2, code := some k2c25 }
def k2c26 : Code := { maxStack := 3, maxLocals := 2, code := prog_1_method_27_code, exceptionTable := #[], attributes := #[] }
def k2m26 : Method := { name := "reserveFrame", desc := "(I)V", sig := { parameters := [.int], returnType := none }, accessFlags := 2, code := some k2c26 }
def k2c27 : Code := { maxStack := 3, maxLocals := 5, code := prog_1_method_28_code, exceptionTable := #[], attributes := #[] }
def k2m27 : Method := { name := "reserveRun", desc := "(II)V", sig := { parameters := [.int, .int], returnType := none }, accessFlags := 2, code := some k2c27 }
def k2c28 : Code := { maxStack := 4, maxLocals := 3, code := prog_1_method_29_code, exceptionTable := #[], attributes := #[] }
def k2m28 : Method := { name := "attachPage", desc := "(II)V", sig := { parameters := [.int, .int], returnType := none }, accessFlags := 2, code := some k2c28 }
def k2c29 : Code := { maxStack := 4, maxLocals := 3, code := prog_1_method_30_code, exceptionTable := #[], attributes := #[] }
def k2m29 : Method := { name := "detachPage", desc := "(I)I", sig := { parameters := [.int], returnType := some .int }, accessFlags := 2, code := some k2c29 }
def k2c30 : Code := { maxStack := 3, maxLocals := 4, code := prog_1_method_31_code, exceptionTable := #[], attributes := #[] }
def k2m30 : Method := { name := "rmapLink", desc := "(II)V", sig := { parameters := [.int, .int], returnType := none }, accessFlags := 2, code := some k2c30 }
def k2c31 : Code := { maxStack := 3, maxLocals := 5, code := prog_1_method_32_code, exceptionTable := #[], attributes := #[] }
def k2m31 : Method := { name := "rmapUnlink", desc := "(I)I", sig := { parameters := [.int], returnType := some .int }, accessFlags := 2, code := some k2c31 }
def k2c32 : Code := { maxStack := 4, maxLocals := 5, code := prog_1_method_33_code, exceptionTable := #[], attributes := #[] }
def k2m32 : Method := { name := "rmapTransfer", desc := "(II)V", sig := { parameters := [.int, .int], returnType := none }, accessFlags := 2, code := some k2c32 }
def k2c33 : Code := { maxStack := 2, maxLocals := 2, code := prog_1_method_34_code, exceptionTable := #[], attributes := #[] }
def k2m33 : Method := { name := "freeRunsOfOrder", desc := "(I)J", sig := { parameters := [.int], returnType := some .long }, accessFlags := 2, code := some k2c33 }
def k2c34 : Code := { maxStack := 5, maxLocals := 7, code := prog_1_method_35_code, exceptionTable := #[], attributes := #[] }
def k2m34 : Method := { name := "refreshRuns", desc := "()V", sig := { parameters := [], returnType := none }, accessFlags := 2, code := some k2c34 }
def k2c35 : Code := { maxStack := 2, maxLocals := 2, code := prog_1_method_36_code, exceptionTable := #[], attributes := #[] }
def k2m35 : Method := { name := "alignMask", desc := "(I)J", sig := { parameters := [.int], returnType := some .long }, accessFlags := 2, code := some k2c35 }
def k2c36 : Code := { maxStack := 4, maxLocals := 5, code := prog_1_method_37_code, exceptionTable := #[], attributes := #[] }
def k2m36 : Method := { name := "advanceMigrateScanner", desc := "()V", sig := { parameters := [], returnType := none }, accessFlags := 2, code := some k2c36 }
def k2c37 : Code := { maxStack := 4, maxLocals := 5, code := prog_1_method_38_code, exceptionTable := #[], attributes := #[] }
def k2m37 : Method := { name := "retreatFreeScanner", desc := "()V", sig := { parameters := [], returnType := none }, accessFlags := 2, code := some k2c37 }
def k2c38 : Code := { maxStack := 2, maxLocals := 1, code := prog_1_method_39_code, exceptionTable := #[], attributes := #[] }
def k2m38 : Method := { name := "scannersDone", desc := "()Z", sig := { parameters := [], returnType := some .boolean }, accessFlags := 2, code := some k2c38 }
def k2c39 : Code := { maxStack := 3, maxLocals := 5, code := prog_1_method_40_code, exceptionTable := #[], attributes := #[] }
def k2m39 : Method := { name := "migrateFrame", desc := "(II)V", sig := { parameters := [.int, .int], returnType := none }, accessFlags := 2, code := some k2c39 }
def k2c40 : Code := { maxStack := 3, maxLocals := 2, code := prog_1_method_41_code, exceptionTable := #[], attributes := #[] }
def k2m40 : Method := { name := "bitOf", desc := "(I)J", sig := { parameters := [.int], returnType := some .long }, accessFlags := 2, code := some k2c40 }
def k2c41 : Code := { maxStack := 4, maxLocals := 2, code := prog_1_method_42_code, exceptionTable := #[], attributes := #[] }
def k2m41 : Method := { name := "lowMask", desc := "(I)J", sig := { parameters := [.int], returnType := some .long }, accessFlags := 2, code := some k2c41 }
def k2c42 : Code := { maxStack := 6, maxLocals := 7, code := prog_1_method_43_code, exceptionTable := #[], attributes := #[] }
def k2m42 : Method := { name := "rangeMask", desc := "(II)J", sig := { parameters := [.int, .int], returnType := some .long }, accessFlags := 2, code := some k2c42 }
def k2c43 : Code := { maxStack := 4, maxLocals := 6, code := prog_1_method_44_code, exceptionTable := #[], attributes := #[] }
def k2m43 : Method := { name := "lowestBit", desc := "(J)I", sig := { parameters := [.long], returnType := some .int }, accessFlags := 2, code := some k2c43 }
def k2c44 : Code := { maxStack := 4, maxLocals := 6, code := prog_1_method_45_code, exceptionTable := #[], attributes := #[] }
def k2m44 : Method := { name := "highestBit", desc := "(J)I", sig := { parameters := [.long], returnType := some .int }, accessFlags := 2, code := some k2c44 }
def k2c45 : Code := { maxStack := 6, maxLocals := 5, code := prog_1_method_46_code, exceptionTable := #[], attributes := #[] }
def k2m45 : Method := { name := "bitCount", desc := "(J)I", sig := { parameters := [.long], returnType := some .int }, accessFlags := 2, code := some k2c45 }
/-- PageCompactorY -/
def k2 : Class := { plain "PageCompactorY" (some 0) with
  accessFlags := 49
  interfaces := #[]
  cf := some (fileOf pool2 8 #[] #[{ accessFlags := 1, nameIndex := 5, descriptorIndex := 72, attributes := #[] }, { accessFlags := 1, nameIndex := 220, descriptorIndex := 39, attributes := #[] }, { accessFlags := 1, nameIndex := 222, descriptorIndex := 223, attributes := #[] }, { accessFlags := 1, nameIndex := 224, descriptorIndex := 53, attributes := #[] }, { accessFlags := 1, nameIndex := 225, descriptorIndex := 226, attributes := #[] }, { accessFlags := 1, nameIndex := 227, descriptorIndex := 53, attributes := #[] }, { accessFlags := 1, nameIndex := 228, descriptorIndex := 53, attributes := #[] }, { accessFlags := 1, nameIndex := 229, descriptorIndex := 65, attributes := #[] }, { accessFlags := 1, nameIndex := 230, descriptorIndex := 65, attributes := #[] }, { accessFlags := 1, nameIndex := 231, descriptorIndex := 83, attributes := #[] }, { accessFlags := 1, nameIndex := 232, descriptorIndex := 65, attributes := #[] }, { accessFlags := 1, nameIndex := 233, descriptorIndex := 83, attributes := #[] }, { accessFlags := 1, nameIndex := 234, descriptorIndex := 83, attributes := #[] }, { accessFlags := 1, nameIndex := 235, descriptorIndex := 83, attributes := #[] }, { accessFlags := 1, nameIndex := 236, descriptorIndex := 83, attributes := #[] }, { accessFlags := 1, nameIndex := 237, descriptorIndex := 238, attributes := #[] }, { accessFlags := 1, nameIndex := 239, descriptorIndex := 238, attributes := #[] }, { accessFlags := 2, nameIndex := 38, descriptorIndex := 39, attributes := #[] }, { accessFlags := 2, nameIndex := 78, descriptorIndex := 79, attributes := #[] }, { accessFlags := 2, nameIndex := 64, descriptorIndex := 65, attributes := #[] }, { accessFlags := 2, nameIndex := 68, descriptorIndex := 53, attributes := #[] }, { accessFlags := 2, nameIndex := 52, descriptorIndex := 53, attributes := #[] }, { accessFlags := 2, nameIndex := 90, descriptorIndex := 53, attributes := #[] }, { accessFlags := 2, nameIndex := 49, descriptorIndex := 6, attributes := #[] }, { accessFlags := 2, nameIndex := 71, descriptorIndex := 72, attributes := #[] }, { accessFlags := 2, nameIndex := 86, descriptorIndex := 87, attributes := #[] }, { accessFlags := 2, nameIndex := 152, descriptorIndex := 87, attributes := #[] }, { accessFlags := 2, nameIndex := 97, descriptorIndex := 72, attributes := #[] }, { accessFlags := 2, nameIndex := 75, descriptorIndex := 72, attributes := #[] }, { accessFlags := 2, nameIndex := 82, descriptorIndex := 83, attributes := #[] }, { accessFlags := 2, nameIndex := 155, descriptorIndex := 72, attributes := #[] }, { accessFlags := 2, nameIndex := 158, descriptorIndex := 83, attributes := #[] }, { accessFlags := 2, nameIndex := 181, descriptorIndex := 72, attributes := #[] }, { accessFlags := 2, nameIndex := 93, descriptorIndex := 94, attributes := #[] }, { accessFlags := 2, nameIndex := 128, descriptorIndex := 6, attributes := #[] }, { accessFlags := 2, nameIndex := 161, descriptorIndex := 94, attributes := #[] }, { accessFlags := 2, nameIndex := 112, descriptorIndex := 6, attributes := #[] }, { accessFlags := 2, nameIndex := 115, descriptorIndex := 6, attributes := #[] }, { accessFlags := 2, nameIndex := 118, descriptorIndex := 119, attributes := #[] }, { accessFlags := 2, nameIndex := 122, descriptorIndex := 72, attributes := #[] }, { accessFlags := 2, nameIndex := 147, descriptorIndex := 94, attributes := #[] }, { accessFlags := 2, nameIndex := 131, descriptorIndex := 94, attributes := #[] }, { accessFlags := 2, nameIndex := 174, descriptorIndex := 175, attributes := #[] }, { accessFlags := 2, nameIndex := 60, descriptorIndex := 61, attributes := #[] }, { accessFlags := 2, nameIndex := 178, descriptorIndex := 61, attributes := #[] }, { accessFlags := 2, nameIndex := 125, descriptorIndex := 61, attributes := #[] }] 49 2 #[] #[{ accessFlags := 25, nameIndex := 196, descriptorIndex := 43, attributes := #[] }, { accessFlags := 25, nameIndex := 199, descriptorIndex := 43, attributes := #[] }, { accessFlags := 25, nameIndex := 201, descriptorIndex := 43, attributes := #[] }, { accessFlags := 25, nameIndex := 203, descriptorIndex := 43, attributes := #[] }, { accessFlags := 25, nameIndex := 205, descriptorIndex := 43, attributes := #[] }, { accessFlags := 25, nameIndex := 207, descriptorIndex := 43, attributes := #[] }, { accessFlags := 25, nameIndex := 209, descriptorIndex := 43, attributes := #[] }, { accessFlags := 25, nameIndex := 211, descriptorIndex := 43, attributes := #[] }, { accessFlags := 25, nameIndex := 212, descriptorIndex := 43, attributes := #[] }, { accessFlags := 25, nameIndex := 214, descriptorIndex := 43, attributes := #[] }, { accessFlags := 25, nameIndex := 216, descriptorIndex := 43, attributes := #[] }, { accessFlags := 2, nameIndex := 42, descriptorIndex := 43, attributes := #[] }, { accessFlags := 2, nameIndex := 46, descriptorIndex := 43, attributes := #[] }, { accessFlags := 18, nameIndex := 11, descriptorIndex := 12, attributes := #[] }, { accessFlags := 18, nameIndex := 15, descriptorIndex := 16, attributes := #[] }, { accessFlags := 18, nameIndex := 19, descriptorIndex := 16, attributes := #[] }, { accessFlags := 18, nameIndex := 22, descriptorIndex := 16, attributes := #[] }, { accessFlags := 18, nameIndex := 25, descriptorIndex := 16, attributes := #[] }, { accessFlags := 18, nameIndex := 28, descriptorIndex := 16, attributes := #[] }, { accessFlags := 18, nameIndex := 31, descriptorIndex := 16, attributes := #[] }, { accessFlags := 2, nameIndex := 56, descriptorIndex := 57, attributes := #[] }, { accessFlags := 2, nameIndex := 134, descriptorIndex := 57, attributes := #[] }, { accessFlags := 2, nameIndex := 137, descriptorIndex := 57, attributes := #[] }, { accessFlags := 2, nameIndex := 140, descriptorIndex := 57, attributes := #[] }, { accessFlags := 18, nameIndex := 34, descriptorIndex := 35, attributes := #[] }, { accessFlags := 2, nameIndex := 143, descriptorIndex := 144, attributes := #[] }, { accessFlags := 2, nameIndex := 106, descriptorIndex := 43, attributes := #[] }, { accessFlags := 2, nameIndex := 109, descriptorIndex := 43, attributes := #[] }, { accessFlags := 2, nameIndex := 103, descriptorIndex := 43, attributes := #[] }, { accessFlags := 2, nameIndex := 100, descriptorIndex := 43, attributes := #[] }])
  fields := #[{ name := "PROCESSES", type := .int, accessFlags := 25, slot := 0, constantValue := 0 }, { name := "MAX_ORDER", type := .int, accessFlags := 25, slot := 1, constantValue := 0 }, { name := "FREE", type := .int, accessFlags := 25, slot := 2, constantValue := 0 }, { name := "MAPPED", type := .int, accessFlags := 25, slot := 3, constantValue := 0 }, { name := "PINNED", type := .int, accessFlags := 25, slot := 4, constantValue := 0 }, { name := "RESERVED", type := .int, accessFlags := 25, slot := 5, constantValue := 0 }, { name := "NONE", type := .int, accessFlags := 25, slot := 6, constantValue := 0 }, { name := "ERR_ARG", type := .int, accessFlags := 25, slot := 7, constantValue := 0 }, { name := "ERR_MAPPED", type := .int, accessFlags := 25, slot := 8, constantValue := 0 }, { name := "ERR_UNMAPPED", type := .int, accessFlags := 25, slot := 9, constantValue := 0 }, { name := "ERR_FULL", type := .int, accessFlags := 25, slot := 10, constantValue := 0 }, { name := "frameTotal", type := .int, accessFlags := 2, slot := 0, constantValue := 0 }, { name := "pageTotal", type := .int, accessFlags := 2, slot := 1, constantValue := 0 }, { name := "frameStates", type := (.array .byte), accessFlags := 18, slot := 2, constantValue := 0 }, { name := "frameValues", type := (.array .int), accessFlags := 18, slot := 3, constantValue := 0 }, { name := "frameCounts", type := (.array .int), accessFlags := 18, slot := 4, constantValue := 0 }, { name := "pageFrame", type := (.array .int), accessFlags := 18, slot := 5, constantValue := 0 }, { name := "rmapHead", type := (.array .int), accessFlags := 18, slot := 6, constantValue := 0 }, { name := "rmapNext", type := (.array .int), accessFlags := 18, slot := 7, constantValue := 0 }, { name := "rmapPrev", type := (.array .int), accessFlags := 18, slot := 8, constantValue := 0 }, { name := "freeSet", type := .long, accessFlags := 2, slot := 9, constantValue := 0 }, { name := "mappedSet", type := .long, accessFlags := 2, slot := 10, constantValue := 0 }, { name := "pinnedSet", type := .long, accessFlags := 2, slot := 11, constantValue := 0 }, { name := "reservedSet", type := .long, accessFlags := 2, slot := 12, constantValue := 0 }, { name := "runSet", type := (.array .long), accessFlags := 18, slot := 13, constantValue := 0 }, { name := "runsStale", type := .boolean, accessFlags := 2, slot := 14, constantValue := 0 }, { name := "scanMigrate", type := .int, accessFlags := 2, slot := 15, constantValue := 0 }, { name := "scanFree", type := .int, accessFlags := 2, slot := 16, constantValue := 0 }, { name := "scanMoved", type := .int, accessFlags := 2, slot := 17, constantValue := 0 }, { name := "scanLimit", type := .int, accessFlags := 2, slot := 18, constantValue := 0 }]
  methods := #[k2m0, k2m1, k2m2, k2m3, k2m4, k2m5, k2m6, k2m7, k2m8, k2m9, k2m10, k2m11, k2m12, k2m13, k2m14, k2m15, k2m16, k2m17, k2m18, k2m19, k2m20, k2m21, k2m22, k2m23, k2m24, k2m25, k2m26, k2m27, k2m28, k2m29, k2m30, k2m31, k2m32, k2m33, k2m34, k2m35, k2m36, k2m37, k2m38, k2m39, k2m40, k2m41, k2m42, k2m43, k2m44, k2m45]
  instanceTypes := #[.int, .int, (.array .byte), (.array .int), (.array .int), (.array .int), (.array .int), (.array .int), (.array .int), .long, .long, .long, .long, (.array .long), .boolean, .int, .int, .int, .int]
  staticTypes := #[.int, .int, .int, .int, .int, .int, .int, .int, .int, .int, .int]
  resolved := Array.replicate 242 none
  statics := none }

def pool3 : Array CpInfo := pool [(1, u "java/lang/Cloneable"), (0, .class_ 1), (0, u "java/lang/Object"), (0, .class_ 3)] 3

/-- java/lang/Cloneable -/
def k3 : Class := { plain "java/lang/Cloneable" (some 0) with
  accessFlags := 1537
  interfaces := #[]
  cf := some (fileOf pool3 2 #[] #[] 1537 4 #[] #[])
  fields := #[]
  methods := #[]
  instanceTypes := #[]
  staticTypes := #[]
  resolved := Array.replicate 8 none
  statics := none }

def pool4 : Array CpInfo := pool [(1, u "java/io/Serializable"), (0, .class_ 1), (0, u "java/lang/Object"), (0, .class_ 3)] 3

/-- java/io/Serializable -/
def k4 : Class := { plain "java/io/Serializable" (some 0) with
  accessFlags := 1537
  interfaces := #[]
  cf := some (fileOf pool4 2 #[] #[] 1537 4 #[] #[])
  fields := #[]
  methods := #[]
  instanceTypes := #[]
  staticTypes := #[]
  resolved := Array.replicate 8 none
  statics := none }

/-- the primitive byte -/
def k5 : Class := { plain "byte" none with kind := .primitive 'B', accessFlags := 0x411 }
/-- [B -/
def k6 : Class := { plain "[B" (some 0) with kind := .array 5 .byte, interfaces := #[3, 4], accessFlags := 1041 }

/-- the primitive int -/
def k7 : Class := { plain "int" none with kind := .primitive 'I', accessFlags := 0x411 }
/-- [I -/
def k8 : Class := { plain "[I" (some 0) with kind := .array 7 .int, interfaces := #[3, 4], accessFlags := 1041 }

/-- the primitive long -/
def k9 : Class := { plain "long" none with kind := .primitive 'J', accessFlags := 0x411 }
/-- [J -/
def k10 : Class := { plain "[J" (some 0) with kind := .array 9 .long, interfaces := #[3, 4], accessFlags := 1041 }

def heap : Heap := #[{ cls := 8, slots := #[.int 0, .int 1, .int 2], vm := .none }]
def classes : Array Class := #[k0, k1, k2, k3, k4, k5, k6, k7, k8, k9, k10]
def interned : List (Array UInt16 × Addr) := []
def slotsUsed : Nat := 3
def theMethod : MethodId := ⟨1, 2⟩
def args0 : Array Value := #[.ref 0]
def aboutOver (below : List Frame) : State where
  vm := { classes := classes, interned := interned.toArray }
  heap := heap
  slotsUsed := slotsUsed
  threads := #[{ frames := .invoking theMethod args0 :: below }]
def below0 : List Frame := [.native { method := ⟨0, 0⟩, args := #[] }]
def about1 : State := aboutOver below0
def p0 : Program := .bare "" "" ""
def e0 : Env := launch0.env 0 0 0
theorem w_frames : about1.frames = Frame.invoking theMethod args0 :: below0 := rfl
set_option maxRecDepth 65536 in
theorem w_args : argsFit about1.vm theMethod args0 = true := by decide +kernel
set_option maxRecDepth 65536 in
theorem w_heap : heapFits about1 = true := by decide +kernel
set_option maxRecDepth 65536 in
theorem w_runnable : about1.curStatus? = some .runnable := by decide +kernel
set_option maxRecDepth 65536 in
theorem w_alone : about1.alone = true := by decide +kernel
set_option maxRecDepth 65536 in
theorem w_named : about1.methodNamed? x = some theMethod := by decide +kernel
set_option maxRecDepth 65536 in
theorem w_hears : about1.hears theMethod below0 = true := by decide +kernel
set_option maxRecDepth 65536 in
theorem w_ripe : about1.ripe theMethod args0 below0 = true := by decide +kernel
theorem w_running : about1.status = .running := rfl
set_option maxRecDepth 65536 in
theorem w_room : about1.hasRoom e0.platform room_1 = true :=
  launch0.hasRoom_least _ room_1 (by decide +kernel) (by decide +kernel) (by decide +kernel) (by decide +kernel) (by decide +kernel) (by decide +kernel)
theorem allAtoms_all (ts : List Jvm.Cond) (a : Array Jvm.Value) (st : Jvm.State) : (allAtoms ts).before a st = ts.all (fun c => c.before a st) := by
  induction ts with
  | nil => rfl
  | cons c t ih =>
    show (Jvm.Cond.and c (allAtoms t)).before a st = _
    rw [Jvm.Cond.before_and, ih, List.all_cons]
def words1 : List Jvm.Cond := Jvm.Cond.code x code maxLocals ret :: tables_1
/-- a 'code' word, met by the world's own term for the bytes: nothing is compared byte by byte -/
theorem code_word {y : MethodName} {bytes : ByteArray} {mx : Nat} {rt : Option FieldType} {a : Array Value} {s : State} {m : MethodId} {meth : Method} {c : Code} (h1 : s.methodNamed? y = some m) (h2 : s.vm.method? m = some meth) (h3 : meth.code = some c) (h4 : c.code = bytes)
    (h5 : (c.maxLocals == mx && c.exceptionTable.isEmpty && decide (c.maxStack ≤ mostOperands) && decide (meth.sig.returnType = rt) && !meth.locks && decide (parseMethodDescriptor y.desc = some meth.sig)) = true) : (Jvm.Cond.code y bytes mx rt).before a s = true := by
  simp only [Bool.and_eq_true, beq_iff_eq, Bool.not_eq_true', decide_eq_true_eq] at h5
  obtain ⟨⟨⟨⟨⟨g1, g2⟩, g3⟩, g4⟩, g5⟩, g6⟩ := h5
  simp [Cond.before, Cond.holds, Cond.value, h1, h2, h3, h4, g1, g2, g3, g4, g5, g6]
def isCode : Jvm.Cond → Bool
  | .code _ _ _ _ => true
  | _ => false
theorem all_split {L : List Jvm.Cond} {P : Jvm.Cond → Bool} (h1 : L.all (fun c => isCode c || P c) = true) (h2 : ∀ c ∈ L.filter isCode, P c = true) : L.all P = true := by
  refine List.all_eq_true.mpr fun c hc => ?_
  have h := List.all_eq_true.mp h1 c hc
  rcases Bool.eq_false_or_eq_true (isCode c) with hi | hi
  · exact h2 c (List.mem_filter.mpr ⟨hc, hi⟩)
  · simpa [hi] using h
set_option maxRecDepth 65536 in
theorem w_c0 : (Jvm.Cond.code x code maxLocals ret).before args0 about1 = true := code_word (m := ⟨1, 2⟩) (meth := k1m2) (c := k1c2) (by decide +kernel) rfl rfl rfl (by decide +kernel)
set_option maxRecDepth 65536 in
theorem w_c1 : (Jvm.Cond.code ({ cls := "PageCompactorY", name := "<init>", desc := "(II)V" } : Jvm.MethodName) prog_1_method_1_code (3 : Nat) (Option.none : Option Jvm.ClassFile.FieldType)).before args0 about1 = true := code_word (m := ⟨2, 0⟩) (meth := k2m0) (c := k2c0) (by decide +kernel) rfl rfl rfl (by decide +kernel)
set_option maxRecDepth 65536 in
theorem w_c2 : (Jvm.Cond.code ({ cls := "java/lang/Object", name := "<init>", desc := "()V" } : Jvm.MethodName) object_method_1_code (1 : Nat) (Option.none : Option Jvm.ClassFile.FieldType)).before args0 about1 = true := code_word (m := ⟨0, 0⟩) (meth := k0m0) (c := k0c0) (by decide +kernel) rfl rfl rfl (by decide +kernel)
set_option maxRecDepth 65536 in
theorem w_c3 : (Jvm.Cond.code ({ cls := "PageCompactorY", name := "clampInt", desc := "(III)I" } : Jvm.MethodName) prog_1_method_18_code (4 : Nat) (Option.some Jvm.ClassFile.FieldType.int)).before args0 about1 = true := code_word (m := ⟨2, 17⟩) (meth := k2m17) (c := k2c17) (by decide +kernel) rfl rfl rfl (by decide +kernel)
set_option maxRecDepth 65536 in
theorem w_c4 : (Jvm.Cond.code ({ cls := "PageCompactorY", name := "resetAll", desc := "()V" } : Jvm.MethodName) prog_1_method_24_code (2 : Nat) (Option.none : Option Jvm.ClassFile.FieldType)).before args0 about1 = true := code_word (m := ⟨2, 23⟩) (meth := k2m23) (c := k2c23) (by decide +kernel) rfl rfl rfl (by decide +kernel)
set_option maxRecDepth 65536 in
theorem w_c5 : (Jvm.Cond.code ({ cls := "PageCompactorY", name := "lowMask", desc := "(I)J" } : Jvm.MethodName) prog_1_method_42_code (2 : Nat) (Option.some Jvm.ClassFile.FieldType.long)).before args0 about1 = true := code_word (m := ⟨2, 41⟩) (meth := k2m41) (c := k2c41) (by decide +kernel) rfl rfl rfl (by decide +kernel)
set_option maxRecDepth 65536 in
theorem w_c6 : (Jvm.Cond.code ({ cls := "PageCompactorY", name := "frameOf", desc := "(II)I" } : Jvm.MethodName) prog_1_method_7_code (4 : Nat) (Option.some Jvm.ClassFile.FieldType.int)).before args0 about1 = true := code_word (m := ⟨2, 6⟩) (meth := k2m6) (c := k2c6) (by decide +kernel) rfl rfl rfl (by decide +kernel)
set_option maxRecDepth 65536 in
theorem w_c7 : (Jvm.Cond.code ({ cls := "PageCompactorY", name := "mappedFrame", desc := "(II)I" } : Jvm.MethodName) prog_1_method_23_code (5 : Nat) (Option.some Jvm.ClassFile.FieldType.int)).before args0 about1 = true := code_word (m := ⟨2, 22⟩) (meth := k2m22) (c := k2c22) (by decide +kernel) rfl rfl rfl (by decide +kernel)
set_option maxRecDepth 65536 in
theorem w_c8 : (Jvm.Cond.code ({ cls := "PageCompactorY", name := "pageInRange", desc := "(II)Z" } : Jvm.MethodName) prog_1_method_19_code (3 : Nat) (Option.some Jvm.ClassFile.FieldType.boolean)).before args0 about1 = true := code_word (m := ⟨2, 18⟩) (meth := k2m18) (c := k2c18) (by decide +kernel) rfl rfl rfl (by decide +kernel)
set_option maxRecDepth 65536 in
theorem w_c9 : (Jvm.Cond.code ({ cls := "PageCompactorY", name := "slotOf", desc := "(II)I" } : Jvm.MethodName) prog_1_method_21_code (3 : Nat) (Option.some Jvm.ClassFile.FieldType.int)).before args0 about1 = true := code_word (m := ⟨2, 20⟩) (meth := k2m20) (c := k2c20) (by decide +kernel) rfl rfl rfl (by decide +kernel)
set_option maxRecDepth 65536 in
theorem w_c10 : (Jvm.Cond.code ({ cls := "PageCompactorY", name := "frameInRange", desc := "(I)Z" } : Jvm.MethodName) prog_1_method_20_code (2 : Nat) (Option.some Jvm.ClassFile.FieldType.boolean)).before args0 about1 = true := code_word (m := ⟨2, 19⟩) (meth := k2m19) (c := k2c19) (by decide +kernel) rfl rfl rfl (by decide +kernel)
set_option maxRecDepth 65536 in
theorem w_c11 : (Jvm.Cond.code ({ cls := "PageCompactorY", name := "frameState", desc := "(I)I" } : Jvm.MethodName) prog_1_method_13_code (2 : Nat) (Option.some Jvm.ClassFile.FieldType.int)).before args0 about1 = true := code_word (m := ⟨2, 12⟩) (meth := k2m12) (c := k2c12) (by decide +kernel) rfl rfl rfl (by decide +kernel)
set_option maxRecDepth 65536 in
theorem w_c12 : (Jvm.Cond.code ({ cls := "PageCompactorY", name := "write", desc := "(III)Z" } : Jvm.MethodName) prog_1_method_5_code (5 : Nat) (Option.some Jvm.ClassFile.FieldType.boolean)).before args0 about1 = true := code_word (m := ⟨2, 4⟩) (meth := k2m4) (c := k2c4) (by decide +kernel) rfl rfl rfl (by decide +kernel)
set_option maxRecDepth 65536 in
theorem w_c13 : (Jvm.Cond.code ({ cls := "PageCompactorYL6", name := "check", desc := "(LPageCompactorY;IIII)Z" } : Jvm.MethodName) method_2_code (13 : Nat) (Option.some Jvm.ClassFile.FieldType.boolean)).before args0 about1 = true := code_word (m := ⟨1, 1⟩) (meth := k1m1) (c := k1c1) (by decide +kernel) rfl rfl rfl (by decide +kernel)
set_option maxRecDepth 65536 in
theorem w_c14 : (Jvm.Cond.code ({ cls := "PageCompactorY", name := "mapCount", desc := "(I)I" } : Jvm.MethodName) prog_1_method_15_code (2 : Nat) (Option.some Jvm.ClassFile.FieldType.int)).before args0 about1 = true := code_word (m := ⟨2, 14⟩) (meth := k2m14) (c := k2c14) (by decide +kernel) rfl rfl rfl (by decide +kernel)
set_option maxRecDepth 65536 in
theorem w_c15 : (Jvm.Cond.code ({ cls := "PageCompactorY", name := "frameValue", desc := "(I)I" } : Jvm.MethodName) prog_1_method_14_code (3 : Nat) (Option.some Jvm.ClassFile.FieldType.int)).before args0 about1 = true := code_word (m := ⟨2, 13⟩) (meth := k2m13) (c := k2c13) (by decide +kernel) rfl rfl rfl (by decide +kernel)
set_option maxRecDepth 65536 in
theorem w_c16 : (Jvm.Cond.code ({ cls := "PageCompactorY", name := "freeCount", desc := "()I" } : Jvm.MethodName) prog_1_method_16_code (1 : Nat) (Option.some Jvm.ClassFile.FieldType.int)).before args0 about1 = true := code_word (m := ⟨2, 15⟩) (meth := k2m15) (c := k2c15) (by decide +kernel) rfl rfl rfl (by decide +kernel)
set_option maxRecDepth 65536 in
theorem w_c17 : (Jvm.Cond.code ({ cls := "PageCompactorY", name := "bitCount", desc := "(J)I" } : Jvm.MethodName) prog_1_method_46_code (5 : Nat) (Option.some Jvm.ClassFile.FieldType.int)).before args0 about1 = true := code_word (m := ⟨2, 45⟩) (meth := k2m45) (c := k2c45) (by decide +kernel) rfl rfl rfl (by decide +kernel)
set_option maxRecDepth 65536 in
theorem w_c18 : (Jvm.Cond.code ({ cls := "PageCompactorY", name := "largestFreeOrder", desc := "()I" } : Jvm.MethodName) prog_1_method_17_code (2 : Nat) (Option.some Jvm.ClassFile.FieldType.int)).before args0 about1 = true := code_word (m := ⟨2, 16⟩) (meth := k2m16) (c := k2c16) (by decide +kernel) rfl rfl rfl (by decide +kernel)
set_option maxRecDepth 65536 in
theorem w_c19 : (Jvm.Cond.code ({ cls := "PageCompactorY", name := "refreshRuns", desc := "()V" } : Jvm.MethodName) prog_1_method_35_code (7 : Nat) (Option.none : Option Jvm.ClassFile.FieldType)).before args0 about1 = true := code_word (m := ⟨2, 34⟩) (meth := k2m34) (c := k2c34) (by decide +kernel) rfl rfl rfl (by decide +kernel)
set_option maxRecDepth 65536 in
theorem w_c20 : (Jvm.Cond.code ({ cls := "PageCompactorY", name := "alignMask", desc := "(I)J" } : Jvm.MethodName) prog_1_method_36_code (2 : Nat) (Option.some Jvm.ClassFile.FieldType.long)).before args0 about1 = true := code_word (m := ⟨2, 35⟩) (meth := k2m35) (c := k2c35) (by decide +kernel) rfl rfl rfl (by decide +kernel)
set_option maxRecDepth 65536 in
theorem w_c21 : (Jvm.Cond.code ({ cls := "PageCompactorY", name := "share", desc := "(IIII)I" } : Jvm.MethodName) prog_1_method_3_code (8 : Nat) (Option.some Jvm.ClassFile.FieldType.int)).before args0 about1 = true := code_word (m := ⟨2, 2⟩) (meth := k2m2) (c := k2c2) (by decide +kernel) rfl rfl rfl (by decide +kernel)
set_option maxRecDepth 65536 in
theorem w_c22 : (Jvm.Cond.code ({ cls := "PageCompactorY", name := "mapNew", desc := "(III)I" } : Jvm.MethodName) prog_1_method_2_code (7 : Nat) (Option.some Jvm.ClassFile.FieldType.int)).before args0 about1 = true := code_word (m := ⟨2, 1⟩) (meth := k2m1) (c := k2c1) (by decide +kernel) rfl rfl rfl (by decide +kernel)
set_option maxRecDepth 65536 in
theorem w_c23 : (Jvm.Cond.code ({ cls := "PageCompactorY", name := "checkTarget", desc := "(II)I" } : Jvm.MethodName) prog_1_method_22_code (4 : Nat) (Option.some Jvm.ClassFile.FieldType.int)).before args0 about1 = true := code_word (m := ⟨2, 21⟩) (meth := k2m21) (c := k2c21) (by decide +kernel) rfl rfl rfl (by decide +kernel)
set_option maxRecDepth 65536 in
theorem w_c24 : (Jvm.Cond.code ({ cls := "PageCompactorY", name := "lowestBit", desc := "(J)I" } : Jvm.MethodName) prog_1_method_44_code (6 : Nat) (Option.some Jvm.ClassFile.FieldType.int)).before args0 about1 = true := code_word (m := ⟨2, 43⟩) (meth := k2m43) (c := k2c43) (by decide +kernel) rfl rfl rfl (by decide +kernel)
set_option maxRecDepth 65536 in
theorem w_c25 : (Jvm.Cond.code ({ cls := "PageCompactorY", name := "enterState", desc := "(II)V" } : Jvm.MethodName) prog_1_method_25_code (5 : Nat) (Option.none : Option Jvm.ClassFile.FieldType)).before args0 about1 = true := code_word (m := ⟨2, 24⟩) (meth := k2m24) (c := k2c24) (by decide +kernel) rfl rfl rfl (by decide +kernel)
set_option maxRecDepth 65536 in
theorem w_c26 : (Jvm.Cond.code ({ cls := "PageCompactorY", name := "bitOf", desc := "(I)J" } : Jvm.MethodName) prog_1_method_41_code (2 : Nat) (Option.some Jvm.ClassFile.FieldType.long)).before args0 about1 = true := code_word (m := ⟨2, 40⟩) (meth := k2m40) (c := k2c40) (by decide +kernel) rfl rfl rfl (by decide +kernel)
set_option maxRecDepth 65536 in
theorem w_c27 : (Jvm.Cond.code ({ cls := "PageCompactorY", name := "attachPage", desc := "(II)V" } : Jvm.MethodName) prog_1_method_29_code (3 : Nat) (Option.none : Option Jvm.ClassFile.FieldType)).before args0 about1 = true := code_word (m := ⟨2, 28⟩) (meth := k2m28) (c := k2c28) (by decide +kernel) rfl rfl rfl (by decide +kernel)
set_option maxRecDepth 65536 in
theorem w_c28 : (Jvm.Cond.code ({ cls := "PageCompactorY", name := "rmapLink", desc := "(II)V" } : Jvm.MethodName) prog_1_method_31_code (4 : Nat) (Option.none : Option Jvm.ClassFile.FieldType)).before args0 about1 = true := code_word (m := ⟨2, 30⟩) (meth := k2m30) (c := k2c30) (by decide +kernel) rfl rfl rfl (by decide +kernel)
set_option maxRecDepth 65536 in
theorem w_c29 : (Jvm.Cond.code ({ cls := "PageCompactorY", name := "read", desc := "(II)I" } : Jvm.MethodName) prog_1_method_6_code (4 : Nat) (Option.some Jvm.ClassFile.FieldType.int)).before args0 about1 = true := code_word (m := ⟨2, 5⟩) (meth := k2m5) (c := k2c5) (by decide +kernel) rfl rfl rfl (by decide +kernel)
set_option maxRecDepth 65536 in
theorem w_c30 : (Jvm.Cond.code ({ cls := "PageCompactorY", name := "unmap", desc := "(II)I" } : Jvm.MethodName) prog_1_method_4_code (5 : Nat) (Option.some Jvm.ClassFile.FieldType.int)).before args0 about1 = true := code_word (m := ⟨2, 3⟩) (meth := k2m3) (c := k2c3) (by decide +kernel) rfl rfl rfl (by decide +kernel)
set_option maxRecDepth 65536 in
theorem w_c31 : (Jvm.Cond.code ({ cls := "PageCompactorY", name := "detachPage", desc := "(I)I" } : Jvm.MethodName) prog_1_method_30_code (3 : Nat) (Option.some Jvm.ClassFile.FieldType.int)).before args0 about1 = true := code_word (m := ⟨2, 29⟩) (meth := k2m29) (c := k2c29) (by decide +kernel) rfl rfl rfl (by decide +kernel)
set_option maxRecDepth 65536 in
theorem w_c32 : (Jvm.Cond.code ({ cls := "PageCompactorY", name := "rmapUnlink", desc := "(I)I" } : Jvm.MethodName) prog_1_method_32_code (5 : Nat) (Option.some Jvm.ClassFile.FieldType.int)).before args0 about1 = true := code_word (m := ⟨2, 31⟩) (meth := k2m31) (c := k2c31) (by decide +kernel) rfl rfl rfl (by decide +kernel)
set_option maxRecDepth 65536 in
theorem w_c33 : (Jvm.Cond.code ({ cls := "PageCompactorY", name := "freeFrame", desc := "(I)V" } : Jvm.MethodName) prog_1_method_26_code (2 : Nat) (Option.none : Option Jvm.ClassFile.FieldType)).before args0 about1 = true := code_word (m := ⟨2, 25⟩) (meth := k2m25) (c := k2c25) (by decide +kernel) rfl rfl rfl (by decide +kernel)
set_option maxRecDepth 65536 in
theorem w_c34 : (Jvm.Cond.code ({ cls := "PageCompactorY", name := "compact", desc := "(I)I" } : Jvm.MethodName) prog_1_method_12_code (3 : Nat) (Option.some Jvm.ClassFile.FieldType.int)).before args0 about1 = true := code_word (m := ⟨2, 11⟩) (meth := k2m11) (c := k2c11) (by decide +kernel) rfl rfl rfl (by decide +kernel)
set_option maxRecDepth 65536 in
theorem w_c35 : (Jvm.Cond.code ({ cls := "PageCompactorY", name := "advanceMigrateScanner", desc := "()V" } : Jvm.MethodName) prog_1_method_37_code (5 : Nat) (Option.none : Option Jvm.ClassFile.FieldType)).before args0 about1 = true := code_word (m := ⟨2, 36⟩) (meth := k2m36) (c := k2c36) (by decide +kernel) rfl rfl rfl (by decide +kernel)
set_option maxRecDepth 65536 in
theorem w_c36 : (Jvm.Cond.code ({ cls := "PageCompactorY", name := "rangeMask", desc := "(II)J" } : Jvm.MethodName) prog_1_method_43_code (7 : Nat) (Option.some Jvm.ClassFile.FieldType.long)).before args0 about1 = true := code_word (m := ⟨2, 42⟩) (meth := k2m42) (c := k2c42) (by decide +kernel) rfl rfl rfl (by decide +kernel)
set_option maxRecDepth 65536 in
theorem w_c37 : (Jvm.Cond.code ({ cls := "PageCompactorY", name := "retreatFreeScanner", desc := "()V" } : Jvm.MethodName) prog_1_method_38_code (5 : Nat) (Option.none : Option Jvm.ClassFile.FieldType)).before args0 about1 = true := code_word (m := ⟨2, 37⟩) (meth := k2m37) (c := k2c37) (by decide +kernel) rfl rfl rfl (by decide +kernel)
set_option maxRecDepth 65536 in
theorem w_c38 : (Jvm.Cond.code ({ cls := "PageCompactorY", name := "scannersDone", desc := "()Z" } : Jvm.MethodName) prog_1_method_39_code (1 : Nat) (Option.some Jvm.ClassFile.FieldType.boolean)).before args0 about1 = true := code_word (m := ⟨2, 38⟩) (meth := k2m38) (c := k2c38) (by decide +kernel) rfl rfl rfl (by decide +kernel)
set_option maxRecDepth 65536 in
theorem w_c39 : (Jvm.Cond.code ({ cls := "PageCompactorY", name := "unpin", desc := "(I)Z" } : Jvm.MethodName) prog_1_method_9_code (2 : Nat) (Option.some Jvm.ClassFile.FieldType.boolean)).before args0 about1 = true := code_word (m := ⟨2, 8⟩) (meth := k2m8) (c := k2c8) (by decide +kernel) rfl rfl rfl (by decide +kernel)
set_option maxRecDepth 65536 in
theorem w_c40 : (Jvm.Cond.code ({ cls := "PageCompactorY", name := "release", desc := "(I)Z" } : Jvm.MethodName) prog_1_method_11_code (2 : Nat) (Option.some Jvm.ClassFile.FieldType.boolean)).before args0 about1 = true := code_word (m := ⟨2, 10⟩) (meth := k2m10) (c := k2c10) (by decide +kernel) rfl rfl rfl (by decide +kernel)
set_option maxRecDepth 65536 in
theorem w_c41 : (Jvm.Cond.code ({ cls := "PageCompactorY", name := "pin", desc := "(I)Z" } : Jvm.MethodName) prog_1_method_8_code (2 : Nat) (Option.some Jvm.ClassFile.FieldType.boolean)).before args0 about1 = true := code_word (m := ⟨2, 7⟩) (meth := k2m7) (c := k2c7) (by decide +kernel) rfl rfl rfl (by decide +kernel)
set_option maxRecDepth 65536 in
theorem w_c42 : (Jvm.Cond.code ({ cls := "PageCompactorY", name := "allocBlock", desc := "(I)I" } : Jvm.MethodName) prog_1_method_10_code (5 : Nat) (Option.some Jvm.ClassFile.FieldType.int)).before args0 about1 = true := code_word (m := ⟨2, 9⟩) (meth := k2m9) (c := k2c9) (by decide +kernel) rfl rfl rfl (by decide +kernel)
set_option maxRecDepth 65536 in
theorem w_c43 : (Jvm.Cond.code ({ cls := "PageCompactorY", name := "freeRunsOfOrder", desc := "(I)J" } : Jvm.MethodName) prog_1_method_34_code (2 : Nat) (Option.some Jvm.ClassFile.FieldType.long)).before args0 about1 = true := code_word (m := ⟨2, 33⟩) (meth := k2m33) (c := k2c33) (by decide +kernel) rfl rfl rfl (by decide +kernel)
set_option maxRecDepth 65536 in
theorem w_c44 : (Jvm.Cond.code ({ cls := "PageCompactorY", name := "reserveRun", desc := "(II)V" } : Jvm.MethodName) prog_1_method_28_code (5 : Nat) (Option.none : Option Jvm.ClassFile.FieldType)).before args0 about1 = true := code_word (m := ⟨2, 27⟩) (meth := k2m27) (c := k2c27) (by decide +kernel) rfl rfl rfl (by decide +kernel)
set_option maxRecDepth 65536 in
theorem w_c45 : (Jvm.Cond.code ({ cls := "PageCompactorY", name := "reserveFrame", desc := "(I)V" } : Jvm.MethodName) prog_1_method_27_code (2 : Nat) (Option.none : Option Jvm.ClassFile.FieldType)).before args0 about1 = true := code_word (m := ⟨2, 26⟩) (meth := k2m26) (c := k2c26) (by decide +kernel) rfl rfl rfl (by decide +kernel)
set_option maxRecDepth 65536 in
theorem w_c46 : (Jvm.Cond.code ({ cls := "PageCompactorY", name := "highestBit", desc := "(J)I" } : Jvm.MethodName) prog_1_method_45_code (6 : Nat) (Option.some Jvm.ClassFile.FieldType.int)).before args0 about1 = true := code_word (m := ⟨2, 44⟩) (meth := k2m44) (c := k2c44) (by decide +kernel) rfl rfl rfl (by decide +kernel)
set_option maxRecDepth 65536 in
theorem w_c47 : (Jvm.Cond.code ({ cls := "PageCompactorY", name := "migrateFrame", desc := "(II)V" } : Jvm.MethodName) prog_1_method_40_code (5 : Nat) (Option.none : Option Jvm.ClassFile.FieldType)).before args0 about1 = true := code_word (m := ⟨2, 39⟩) (meth := k2m39) (c := k2c39) (by decide +kernel) rfl rfl rfl (by decide +kernel)
set_option maxRecDepth 65536 in
theorem w_c48 : (Jvm.Cond.code ({ cls := "PageCompactorY", name := "rmapTransfer", desc := "(II)V" } : Jvm.MethodName) prog_1_method_33_code (5 : Nat) (Option.none : Option Jvm.ClassFile.FieldType)).before args0 about1 = true := code_word (m := ⟨2, 32⟩) (meth := k2m32) (c := k2c32) (by decide +kernel) rfl rfl rfl (by decide +kernel)
def codes1 : List Jvm.Cond := [Jvm.Cond.code x code maxLocals ret, Jvm.Cond.code ({ cls := "PageCompactorY", name := "<init>", desc := "(II)V" } : Jvm.MethodName) prog_1_method_1_code (3 : Nat) (Option.none : Option Jvm.ClassFile.FieldType), Jvm.Cond.code ({ cls := "java/lang/Object", name := "<init>", desc := "()V" } : Jvm.MethodName) object_method_1_code (1 : Nat) (Option.none : Option Jvm.ClassFile.FieldType), Jvm.Cond.code ({ cls := "PageCompactorY", name := "clampInt", desc := "(III)I" } : Jvm.MethodName) prog_1_method_18_code (4 : Nat) (Option.some Jvm.ClassFile.FieldType.int), Jvm.Cond.code ({ cls := "PageCompactorY", name := "resetAll", desc := "()V" } : Jvm.MethodName) prog_1_method_24_code (2 : Nat) (Option.none : Option Jvm.ClassFile.FieldType), Jvm.Cond.code ({ cls := "PageCompactorY", name := "lowMask", desc := "(I)J" } : Jvm.MethodName) prog_1_method_42_code (2 : Nat) (Option.some Jvm.ClassFile.FieldType.long), Jvm.Cond.code ({ cls := "PageCompactorY", name := "frameOf", desc := "(II)I" } : Jvm.MethodName) prog_1_method_7_code (4 : Nat) (Option.some Jvm.ClassFile.FieldType.int), Jvm.Cond.code ({ cls := "PageCompactorY", name := "mappedFrame", desc := "(II)I" } : Jvm.MethodName) prog_1_method_23_code (5 : Nat) (Option.some Jvm.ClassFile.FieldType.int), Jvm.Cond.code ({ cls := "PageCompactorY", name := "pageInRange", desc := "(II)Z" } : Jvm.MethodName) prog_1_method_19_code (3 : Nat) (Option.some Jvm.ClassFile.FieldType.boolean), Jvm.Cond.code ({ cls := "PageCompactorY", name := "slotOf", desc := "(II)I" } : Jvm.MethodName) prog_1_method_21_code (3 : Nat) (Option.some Jvm.ClassFile.FieldType.int), Jvm.Cond.code ({ cls := "PageCompactorY", name := "frameInRange", desc := "(I)Z" } : Jvm.MethodName) prog_1_method_20_code (2 : Nat) (Option.some Jvm.ClassFile.FieldType.boolean), Jvm.Cond.code ({ cls := "PageCompactorY", name := "frameState", desc := "(I)I" } : Jvm.MethodName) prog_1_method_13_code (2 : Nat) (Option.some Jvm.ClassFile.FieldType.int), Jvm.Cond.code ({ cls := "PageCompactorY", name := "write", desc := "(III)Z" } : Jvm.MethodName) prog_1_method_5_code (5 : Nat) (Option.some Jvm.ClassFile.FieldType.boolean), Jvm.Cond.code ({ cls := "PageCompactorYL6", name := "check", desc := "(LPageCompactorY;IIII)Z" } : Jvm.MethodName) method_2_code (13 : Nat) (Option.some Jvm.ClassFile.FieldType.boolean), Jvm.Cond.code ({ cls := "PageCompactorY", name := "mapCount", desc := "(I)I" } : Jvm.MethodName) prog_1_method_15_code (2 : Nat) (Option.some Jvm.ClassFile.FieldType.int), Jvm.Cond.code ({ cls := "PageCompactorY", name := "frameValue", desc := "(I)I" } : Jvm.MethodName) prog_1_method_14_code (3 : Nat) (Option.some Jvm.ClassFile.FieldType.int), Jvm.Cond.code ({ cls := "PageCompactorY", name := "freeCount", desc := "()I" } : Jvm.MethodName) prog_1_method_16_code (1 : Nat) (Option.some Jvm.ClassFile.FieldType.int), Jvm.Cond.code ({ cls := "PageCompactorY", name := "bitCount", desc := "(J)I" } : Jvm.MethodName) prog_1_method_46_code (5 : Nat) (Option.some Jvm.ClassFile.FieldType.int), Jvm.Cond.code ({ cls := "PageCompactorY", name := "largestFreeOrder", desc := "()I" } : Jvm.MethodName) prog_1_method_17_code (2 : Nat) (Option.some Jvm.ClassFile.FieldType.int), Jvm.Cond.code ({ cls := "PageCompactorY", name := "refreshRuns", desc := "()V" } : Jvm.MethodName) prog_1_method_35_code (7 : Nat) (Option.none : Option Jvm.ClassFile.FieldType), Jvm.Cond.code ({ cls := "PageCompactorY", name := "alignMask", desc := "(I)J" } : Jvm.MethodName) prog_1_method_36_code (2 : Nat) (Option.some Jvm.ClassFile.FieldType.long), Jvm.Cond.code ({ cls := "PageCompactorY", name := "share", desc := "(IIII)I" } : Jvm.MethodName) prog_1_method_3_code (8 : Nat) (Option.some Jvm.ClassFile.FieldType.int), Jvm.Cond.code ({ cls := "PageCompactorY", name := "mapNew", desc := "(III)I" } : Jvm.MethodName) prog_1_method_2_code (7 : Nat) (Option.some Jvm.ClassFile.FieldType.int), Jvm.Cond.code ({ cls := "PageCompactorY", name := "checkTarget", desc := "(II)I" } : Jvm.MethodName) prog_1_method_22_code (4 : Nat) (Option.some Jvm.ClassFile.FieldType.int), Jvm.Cond.code ({ cls := "PageCompactorY", name := "lowestBit", desc := "(J)I" } : Jvm.MethodName) prog_1_method_44_code (6 : Nat) (Option.some Jvm.ClassFile.FieldType.int), Jvm.Cond.code ({ cls := "PageCompactorY", name := "enterState", desc := "(II)V" } : Jvm.MethodName) prog_1_method_25_code (5 : Nat) (Option.none : Option Jvm.ClassFile.FieldType), Jvm.Cond.code ({ cls := "PageCompactorY", name := "bitOf", desc := "(I)J" } : Jvm.MethodName) prog_1_method_41_code (2 : Nat) (Option.some Jvm.ClassFile.FieldType.long), Jvm.Cond.code ({ cls := "PageCompactorY", name := "attachPage", desc := "(II)V" } : Jvm.MethodName) prog_1_method_29_code (3 : Nat) (Option.none : Option Jvm.ClassFile.FieldType), Jvm.Cond.code ({ cls := "PageCompactorY", name := "rmapLink", desc := "(II)V" } : Jvm.MethodName) prog_1_method_31_code (4 : Nat) (Option.none : Option Jvm.ClassFile.FieldType), Jvm.Cond.code ({ cls := "PageCompactorY", name := "read", desc := "(II)I" } : Jvm.MethodName) prog_1_method_6_code (4 : Nat) (Option.some Jvm.ClassFile.FieldType.int), Jvm.Cond.code ({ cls := "PageCompactorY", name := "unmap", desc := "(II)I" } : Jvm.MethodName) prog_1_method_4_code (5 : Nat) (Option.some Jvm.ClassFile.FieldType.int), Jvm.Cond.code ({ cls := "PageCompactorY", name := "detachPage", desc := "(I)I" } : Jvm.MethodName) prog_1_method_30_code (3 : Nat) (Option.some Jvm.ClassFile.FieldType.int), Jvm.Cond.code ({ cls := "PageCompactorY", name := "rmapUnlink", desc := "(I)I" } : Jvm.MethodName) prog_1_method_32_code (5 : Nat) (Option.some Jvm.ClassFile.FieldType.int), Jvm.Cond.code ({ cls := "PageCompactorY", name := "freeFrame", desc := "(I)V" } : Jvm.MethodName) prog_1_method_26_code (2 : Nat) (Option.none : Option Jvm.ClassFile.FieldType), Jvm.Cond.code ({ cls := "PageCompactorY", name := "compact", desc := "(I)I" } : Jvm.MethodName) prog_1_method_12_code (3 : Nat) (Option.some Jvm.ClassFile.FieldType.int), Jvm.Cond.code ({ cls := "PageCompactorY", name := "advanceMigrateScanner", desc := "()V" } : Jvm.MethodName) prog_1_method_37_code (5 : Nat) (Option.none : Option Jvm.ClassFile.FieldType), Jvm.Cond.code ({ cls := "PageCompactorY", name := "rangeMask", desc := "(II)J" } : Jvm.MethodName) prog_1_method_43_code (7 : Nat) (Option.some Jvm.ClassFile.FieldType.long), Jvm.Cond.code ({ cls := "PageCompactorY", name := "retreatFreeScanner", desc := "()V" } : Jvm.MethodName) prog_1_method_38_code (5 : Nat) (Option.none : Option Jvm.ClassFile.FieldType), Jvm.Cond.code ({ cls := "PageCompactorY", name := "scannersDone", desc := "()Z" } : Jvm.MethodName) prog_1_method_39_code (1 : Nat) (Option.some Jvm.ClassFile.FieldType.boolean), Jvm.Cond.code ({ cls := "PageCompactorY", name := "unpin", desc := "(I)Z" } : Jvm.MethodName) prog_1_method_9_code (2 : Nat) (Option.some Jvm.ClassFile.FieldType.boolean), Jvm.Cond.code ({ cls := "PageCompactorY", name := "release", desc := "(I)Z" } : Jvm.MethodName) prog_1_method_11_code (2 : Nat) (Option.some Jvm.ClassFile.FieldType.boolean), Jvm.Cond.code ({ cls := "PageCompactorY", name := "pin", desc := "(I)Z" } : Jvm.MethodName) prog_1_method_8_code (2 : Nat) (Option.some Jvm.ClassFile.FieldType.boolean), Jvm.Cond.code ({ cls := "PageCompactorY", name := "allocBlock", desc := "(I)I" } : Jvm.MethodName) prog_1_method_10_code (5 : Nat) (Option.some Jvm.ClassFile.FieldType.int), Jvm.Cond.code ({ cls := "PageCompactorY", name := "freeRunsOfOrder", desc := "(I)J" } : Jvm.MethodName) prog_1_method_34_code (2 : Nat) (Option.some Jvm.ClassFile.FieldType.long), Jvm.Cond.code ({ cls := "PageCompactorY", name := "reserveRun", desc := "(II)V" } : Jvm.MethodName) prog_1_method_28_code (5 : Nat) (Option.none : Option Jvm.ClassFile.FieldType), Jvm.Cond.code ({ cls := "PageCompactorY", name := "reserveFrame", desc := "(I)V" } : Jvm.MethodName) prog_1_method_27_code (2 : Nat) (Option.none : Option Jvm.ClassFile.FieldType), Jvm.Cond.code ({ cls := "PageCompactorY", name := "highestBit", desc := "(J)I" } : Jvm.MethodName) prog_1_method_45_code (6 : Nat) (Option.some Jvm.ClassFile.FieldType.int), Jvm.Cond.code ({ cls := "PageCompactorY", name := "migrateFrame", desc := "(II)V" } : Jvm.MethodName) prog_1_method_40_code (5 : Nat) (Option.none : Option Jvm.ClassFile.FieldType), Jvm.Cond.code ({ cls := "PageCompactorY", name := "rmapTransfer", desc := "(II)V" } : Jvm.MethodName) prog_1_method_33_code (5 : Nat) (Option.none : Option Jvm.ClassFile.FieldType)]
set_option maxRecDepth 65536 in
theorem codes_eq : words1.filter isCode = codes1 := rfl
theorem w_codes : ∀ c ∈ words1.filter isCode, c.before args0 about1 = true := by
  rw [codes_eq]
  intro c hc
  simp only [codes1, List.mem_cons, List.not_mem_nil, or_false] at hc
  rcases hc with rfl | rfl | rfl | rfl | rfl | rfl | rfl | rfl | rfl | rfl | rfl | rfl | rfl | rfl | rfl | rfl | rfl | rfl | rfl | rfl | rfl | rfl | rfl | rfl | rfl | rfl | rfl | rfl | rfl | rfl | rfl | rfl | rfl | rfl | rfl | rfl | rfl | rfl | rfl | rfl | rfl | rfl | rfl | rfl | rfl | rfl | rfl | rfl | rfl
  · exact w_c0
  · exact w_c1
  · exact w_c2
  · exact w_c3
  · exact w_c4
  · exact w_c5
  · exact w_c6
  · exact w_c7
  · exact w_c8
  · exact w_c9
  · exact w_c10
  · exact w_c11
  · exact w_c12
  · exact w_c13
  · exact w_c14
  · exact w_c15
  · exact w_c16
  · exact w_c17
  · exact w_c18
  · exact w_c19
  · exact w_c20
  · exact w_c21
  · exact w_c22
  · exact w_c23
  · exact w_c24
  · exact w_c25
  · exact w_c26
  · exact w_c27
  · exact w_c28
  · exact w_c29
  · exact w_c30
  · exact w_c31
  · exact w_c32
  · exact w_c33
  · exact w_c34
  · exact w_c35
  · exact w_c36
  · exact w_c37
  · exact w_c38
  · exact w_c39
  · exact w_c40
  · exact w_c41
  · exact w_c42
  · exact w_c43
  · exact w_c44
  · exact w_c45
  · exact w_c46
  · exact w_c47
  · exact w_c48
set_option maxRecDepth 65536 in
theorem w_t1 : (words1.take 24).all (fun c => isCode c || c.before args0 about1) = true := by decide +kernel
set_option maxRecDepth 65536 in
theorem w_t2 : ((words1.drop 24).take 24).all (fun c => isCode c || c.before args0 about1) = true := by decide +kernel
set_option maxRecDepth 65536 in
theorem w_t3 : (((words1.drop 24).drop 24).take 24).all (fun c => isCode c || c.before args0 about1) = true := by decide +kernel
set_option maxRecDepth 65536 in
theorem w_t4 : ((((words1.drop 24).drop 24).drop 24).take 24).all (fun c => isCode c || c.before args0 about1) = true := by decide +kernel
set_option maxRecDepth 65536 in
theorem w_t5 : (((((words1.drop 24).drop 24).drop 24).drop 24).take 24).all (fun c => isCode c || c.before args0 about1) = true := by decide +kernel
set_option maxRecDepth 65536 in
theorem w_t6 : ((((((words1.drop 24).drop 24).drop 24).drop 24).drop 24).take 24).all (fun c => isCode c || c.before args0 about1) = true := by decide +kernel
set_option maxRecDepth 65536 in
theorem w_t7 : (((((((words1.drop 24).drop 24).drop 24).drop 24).drop 24).drop 24).take 24).all (fun c => isCode c || c.before args0 about1) = true := by decide +kernel
set_option maxRecDepth 65536 in
theorem w_t8 : ((((((((words1.drop 24).drop 24).drop 24).drop 24).drop 24).drop 24).drop 24).take 24).all (fun c => isCode c || c.before args0 about1) = true := by decide +kernel
set_option maxRecDepth 65536 in
theorem w_t9 : (((((((((words1.drop 24).drop 24).drop 24).drop 24).drop 24).drop 24).drop 24).drop 24).take 24).all (fun c => isCode c || c.before args0 about1) = true := by decide +kernel
set_option maxRecDepth 65536 in
theorem w_t10 : ((((((((((words1.drop 24).drop 24).drop 24).drop 24).drop 24).drop 24).drop 24).drop 24).drop 24).take 24).all (fun c => isCode c || c.before args0 about1) = true := by decide +kernel
set_option maxRecDepth 65536 in
theorem w_t11 : ((((((((((words1.drop 24).drop 24).drop 24).drop 24).drop 24).drop 24).drop 24).drop 24).drop 24).drop 24).all (fun c => isCode c || c.before args0 about1) = true := by decide +kernel
theorem w_tables : (allAtoms (Jvm.Cond.code x code maxLocals ret :: tables_1)).before args0 about1 = true := by
  rw [allAtoms_all]
  show words1.all (fun c => c.before args0 about1) = true
  refine all_split ?_ w_codes
  rw [← List.take_append_drop 24 words1, List.all_append, w_t1, ← List.take_append_drop 24 (words1.drop 24), List.all_append, w_t2, ← List.take_append_drop 24 ((words1.drop 24).drop 24), List.all_append, w_t3, ← List.take_append_drop 24 (((words1.drop 24).drop 24).drop 24), List.all_append, w_t4, ← List.take_append_drop 24 ((((words1.drop 24).drop 24).drop 24).drop 24), List.all_append, w_t5, ← List.take_append_drop 24 (((((words1.drop 24).drop 24).drop 24).drop 24).drop 24), List.all_append, w_t6, ← List.take_append_drop 24 ((((((words1.drop 24).drop 24).drop 24).drop 24).drop 24).drop 24), List.all_append, w_t7, ← List.take_append_drop 24 (((((((words1.drop 24).drop 24).drop 24).drop 24).drop 24).drop 24).drop 24), List.all_append, w_t8, ← List.take_append_drop 24 ((((((((words1.drop 24).drop 24).drop 24).drop 24).drop 24).drop 24).drop 24).drop 24), List.all_append, w_t9, ← List.take_append_drop 24 (((((((((words1.drop 24).drop 24).drop 24).drop 24).drop 24).drop 24).drop 24).drop 24).drop 24), List.all_append, w_t10, w_t11]
  rfl
set_option maxRecDepth 65536 in
theorem w_rest : rest_1_c.before args0 about1 = true := by decide +kernel
set_option maxRecDepth 65536 in
theorem w_case : (Jvm.Cond.and given_1 narrow_1).before args0 about1 = true := by decide +kernel
theorem w_applies : (headSpec (Jvm.Cond.code x code maxLocals ret :: tables_1) room_1).applies x e0.platform about1 = true :=
  (Spec.applies_iff w_frames).mpr ⟨w_running, w_runnable, w_alone, w_named, w_hears, w_ripe, w_room, w_tables⟩
theorem atStart : AtStart classFile x code maxLocals ret World_1 tables_1 room_1 Calls_1 rest_1 Pre_1 launch0 p0 e0 about1 theMethod args0 below0 :=
  ⟨lists_1, trivial, launch0.admits_env _ _ _, launch0.least_env, fairChoices_fair.cas, fairChoices_fair.clock, w_frames, w_args, w_heap, w_applies, trivial, w_rest, w_case⟩
end start1
theorem witness_1 : WitnessClaimed_1 := ⟨start1.p0, start1.e0, start1.about1, start1.theMethod, start1.args0, start1.below0, start1.atStart⟩
end Jvm.Pilot.@@N@@
