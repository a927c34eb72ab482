import JvmDerived
import JvmDerived.Pilot.@@N@@Statement
import JvmDerived.Pilot.@@N@@Code
set_option linter.unusedVariables false
set_option linter.unusedSimpArgs false
namespace Jvm.AM
open Sem ClassFile Op Lib Jvm.Stand Jvm.Free Jvm.LawKit Jvm.RoadKit
/-! ## 1. The abstract objects: one object of the class, its scalars and its arrays by number -/
abbrev S : Type := (Nat → Int32) × (Nat → Int64) × (Nat → List Int32) × (Nat → List Int64)
def aupd {A : Type} (g : Nat → A) (f : Nat) (v : A) : Nat → A := fun x => if x = f then v else g x
def gI (s : S) (f : Nat) : Int32 := s.1 f
def gL (s : S) (f : Nat) : Int64 := s.2.1 f
def gA (s : S) (f : Nat) : List Int32 := s.2.2.1 f
def gB (s : S) (f : Nat) : List Int64 := s.2.2.2 f
def sI (s : S) (f : Nat) (v : Int32) : S := (aupd s.1 f v, s.2)
def sL (s : S) (f : Nat) (v : Int64) : S := (s.1, aupd s.2.1 f v, s.2.2)
def sA (s : S) (f : Nat) (v : List Int32) : S := (s.1, s.2.1, aupd s.2.2.1 f v, s.2.2.2)
def sB (s : S) (f : Nat) (v : List Int64) : S := (s.1, s.2.1, s.2.2.1, aupd s.2.2.2 f v)
def s0 : S := (fun _ => 0, fun _ => 0, fun _ => [], fun _ => [])
theorem gI_s0 (f : Nat) : gI s0 f = 0 := by simp only [gI, s0]
theorem gL_s0 (f : Nat) : gL s0 f = 0 := by simp only [gL, s0]
theorem gA_s0 (f : Nat) : gA s0 f = [] := by simp only [gA, s0]
theorem gB_s0 (f : Nat) : gB s0 f = [] := by simp only [gB, s0]
theorem gI_sI (s : S) (f g : Nat) (v : Int32) : gI (sI s f v) g = if g = f then v else gI s g := by simp only [gI, gL, gA, gB, sI, sL, sA, sB, aupd]
theorem gI_sL (s : S) (f g : Nat) (v : Int64) : gI (sL s f v) g = gI s g := by simp only [gI, gL, gA, gB, sI, sL, sA, sB, aupd]
theorem gI_sA (s : S) (f g : Nat) (v : List Int32) : gI (sA s f v) g = gI s g := by simp only [gI, gL, gA, gB, sI, sL, sA, sB, aupd]
theorem gI_sB (s : S) (f g : Nat) (v : List Int64) : gI (sB s f v) g = gI s g := by simp only [gI, gL, gA, gB, sI, sL, sA, sB, aupd]
theorem gL_sI (s : S) (f g : Nat) (v : Int32) : gL (sI s f v) g = gL s g := by simp only [gI, gL, gA, gB, sI, sL, sA, sB, aupd]
theorem gL_sL (s : S) (f g : Nat) (v : Int64) : gL (sL s f v) g = if g = f then v else gL s g := by simp only [gI, gL, gA, gB, sI, sL, sA, sB, aupd]
theorem gL_sA (s : S) (f g : Nat) (v : List Int32) : gL (sA s f v) g = gL s g := by simp only [gI, gL, gA, gB, sI, sL, sA, sB, aupd]
theorem gL_sB (s : S) (f g : Nat) (v : List Int64) : gL (sB s f v) g = gL s g := by simp only [gI, gL, gA, gB, sI, sL, sA, sB, aupd]
theorem gA_sI (s : S) (f g : Nat) (v : Int32) : gA (sI s f v) g = gA s g := by simp only [gI, gL, gA, gB, sI, sL, sA, sB, aupd]
theorem gA_sL (s : S) (f g : Nat) (v : Int64) : gA (sL s f v) g = gA s g := by simp only [gI, gL, gA, gB, sI, sL, sA, sB, aupd]
theorem gA_sA (s : S) (f g : Nat) (v : List Int32) : gA (sA s f v) g = if g = f then v else gA s g := by simp only [gI, gL, gA, gB, sI, sL, sA, sB, aupd]
theorem gA_sB (s : S) (f g : Nat) (v : List Int64) : gA (sB s f v) g = gA s g := by simp only [gI, gL, gA, gB, sI, sL, sA, sB, aupd]
theorem gB_sI (s : S) (f g : Nat) (v : Int32) : gB (sI s f v) g = gB s g := by simp only [gI, gL, gA, gB, sI, sL, sA, sB, aupd]
theorem gB_sL (s : S) (f g : Nat) (v : Int64) : gB (sL s f v) g = gB s g := by simp only [gI, gL, gA, gB, sI, sL, sA, sB, aupd]
theorem gB_sA (s : S) (f g : Nat) (v : List Int32) : gB (sA s f v) g = gB s g := by simp only [gI, gL, gA, gB, sI, sL, sA, sB, aupd]
theorem gB_sB (s : S) (f g : Nat) (v : List Int64) : gB (sB s f v) g = if g = f then v else gB s g := by simp only [gI, gL, gA, gB, sI, sL, sA, sB, aupd]
def rep {A : Type} (n : Nat) (x : A) : List A := List.replicate n x
theorem rep_length {A : Type} (n : Nat) (x : A) : (rep n x).length = n := by simp only [rep, List.length_replicate]
theorem rep_get {A : Type} (n : Nat) (x : A) (k : Nat) : (rep n x)[k]? = if k < n then some x else none := by simp only [rep, List.getElem?_replicate]
theorem rep_set {A : Type} (n : Nat) (x : A) (k : Nat) : (rep n x).set k x = rep n x := by simp only [rep, List.set_replicate_self]
/-- reading and writing a component -/
def ix {A : Type} (l : List A) (j : Int32) : Option A := if j < 0 then none else l[j.toNatClampNeg]?
def st {A : Type} (l : List A) (j : Int32) (x : A) : Option (List A) := if j < 0 then none else if j.toNatClampNeg < l.length then some (l.set j.toNatClampNeg x) else none
/-- the world of a run: the script array, if there is one; the objects made so far, each with the number of arrays that it has been given -/
abbrev W : Type := Option (List Int32) × List (Nat × S)
/-- the class: name, slots, scalar fields (name, descriptor, type), array fields in the order of their making (name, descriptor, component type, most slots) -/
abbrev CI : Type := String × Nat × List (String × String × FieldType) × List (String × String × FieldType × Nat)
def cN (c : CI) : String := c.1
def cF (c : CI) : Nat := c.2.1
def cS (c : CI) : List (String × String × FieldType) := c.2.2.1
def cA (c : CI) : List (String × String × FieldType × Nat) := c.2.2.2
def cK (c : CI) : Nat := (cA c).length
/-- the program: the sheet's words, the class -/
abbrev PI : Type := List Jvm.Cond × CI
/-- a method: name, bytes, variables, return type, room, most objects, whether it makes cells, cells and slots at its start -/
abbrev Meth : Type := MethodName × ByteArray × Nat × Option FieldType × Room × Nat × Bool × Nat × Nat
def mY (M : Meth) : MethodName := M.1
def mB (M : Meth) : ByteArray := M.2.1
def mL (M : Meth) : Nat := M.2.2.1
def mT (M : Meth) : Option FieldType := M.2.2.2.1
def mR (M : Meth) : Room := M.2.2.2.2.1
def mN (M : Meth) : Nat := M.2.2.2.2.2.1
def mTop (M : Meth) : Bool := M.2.2.2.2.2.2.1
def mUC (M : Meth) : Nat := M.2.2.2.2.2.2.2.1
def mUS (M : Meth) : Nat := M.2.2.2.2.2.2.2.2
/-! ## 2. Abstract references: 0 the script; j + 1 the cell at b + j -/
def con (α b : Nat) : Value → Value
  | .ref 0 => .ref α
  | .ref (j + 1) => .ref (b + j)
  | v => v
def cs (α b : Nat) : Slot → Slot
  | .val v => .val (con α b v)
  | .unset => .unset
  | .second => .second
def cL (α b : Nat) (L : List Slot) : Array Slot := (L.map (cs α b)).toArray
def cV (α b : Nat) (l : List Value) : List Value := l.map (con α b)
theorem con_cat (α b : Nat) (v : Value) : (con α b v).category = v.category := by
  cases v <;> try rfl
  rename_i a; cases a <;> rfl
theorem con_ref (α b : Nat) (v : Value) : (con α b v).isRef = v.isRef := by
  cases v <;> try rfl
  rename_i a; cases a <;> rfl
theorem cL_get {α b : Nat} {L : List Slot} {k : Nat} {x : Slot} (h : L[k]? = some x) : (cL α b L)[k]? = some (cs α b x) := by
  simp [cL, List.getElem?_toArray, List.getElem?_map, h]
theorem cL_size (α b : Nat) (L : List Slot) : (cL α b L).size = L.length := by simp [cL]
theorem cV_sum (α b : Nat) (l : List Value) : ((cV α b l).map fun v => v.category).sum = (l.map fun v => v.category).sum := by
  simp [cV, List.map_map, Function.comp_def, con_cat]
theorem setAt_map {α b : Nat} {l l' : Array Slot} {i : Nat} {x : Slot} (h : setAt l i x = some l') : setAt (l.map (cs α b)) i (cs α b x) = some (l'.map (cs α b)) := by
  unfold setAt at h ⊢
  split at h
  · rename_i q
    cases h
    rw [if_pos (by simpa using q)]
    simp [Array.map_setIfInBounds]
  · cases h
theorem storeSelf_map {α b : Nat} {l l' : Array Slot} {i : Nat} {v : Value} (h : storeSelf l i v = some l') : storeSelf (l.map (cs α b)) i (con α b v) = some (l'.map (cs α b)) := by
  simp only [storeSelf, Option.bind_eq_bind, Option.bind_eq_some_iff] at h ⊢
  obtain ⟨l1, h1, h2⟩ := h
  refine ⟨l1.map (cs α b), setAt_map (x := .val v) h1, ?_⟩
  rw [con_cat]
  split at h2
  · rename_i q
    rw [if_pos q]
    obtain ⟨x, h3, h4⟩ := Option.bind_eq_some_iff.mp h2
    refine Option.bind_eq_some_iff.mpr ⟨cs α b x, by simp [h3], ?_⟩
    cases x with
    | unset => exact setAt_map (x := .second) h4
    | second => exact setAt_map (x := .second) h4
    | val old =>
      simp only [cs, con_cat] at h4 ⊢
      split at h4
      · rename_i q2
        rw [if_pos q2]
        obtain ⟨y, h5, h6⟩ := Option.bind_eq_some_iff.mp h4
        exact Option.bind_eq_some_iff.mpr ⟨_, setAt_map (x := .unset) h5, setAt_map (x := .second) h6⟩
      · rename_i q2
        rw [if_neg q2]
        exact setAt_map (x := .second) h4
  · rename_i q
    rw [if_neg q]
    cases h2; rfl
theorem store_map {α b : Nat} {l l' : Array Slot} {i : Nat} {v : Value} (h : storeLocals l i v = some l') : storeLocals (l.map (cs α b)) i (con α b v) = some (l'.map (cs α b)) := by
  simp only [storeLocals, Option.bind_eq_bind, Option.bind_eq_some_iff] at h ⊢
  obtain ⟨x, h1, h2⟩ := h
  refine ⟨cs α b x, by simp [h1], ?_⟩
  cases x with
  | unset => exact storeSelf_map h2
  | second =>
    obtain ⟨y, h3, h4⟩ := Option.bind_eq_some_iff.mp h2
    exact Option.bind_eq_some_iff.mpr ⟨_, setAt_map (x := .unset) h3, storeSelf_map h4⟩
  | val old =>
    simp only [cs, con_cat] at h2 ⊢
    split at h2
    · rename_i q
      rw [if_pos q]
      obtain ⟨y, h3, h4⟩ := Option.bind_eq_some_iff.mp h2
      exact Option.bind_eq_some_iff.mpr ⟨_, setAt_map (x := .unset) h3, storeSelf_map h4⟩
    · rename_i q
      rw [if_neg q]
      exact storeSelf_map h2
theorem storeC {α b : Nat} {L L' : List Slot} {i : Nat} {v : Value} (h : storeLocals L.toArray i v = some L'.toArray) : storeLocals (cL α b L) i (con α b v) = some (cL α b L') := by
  have := store_map (α := α) (b := b) h
  simpa [cL] using this
theorem setAt_size {l l' : Array Slot} {i : Nat} {x : Slot} (h : setAt l i x = some l') : l'.size = l.size := by
  unfold setAt at h; split at h <;> cases h; simp
theorem storeSelf_size {l l' : Array Slot} {i : Nat} {v : Value} (h : storeSelf l i v = some l') : l'.size = l.size := by
  simp only [storeSelf, Option.bind_eq_bind, Option.bind_eq_some_iff] at h
  obtain ⟨l1, h1, h2⟩ := h
  have e1 := setAt_size h1
  split at h2
  · obtain ⟨x, h3, h4⟩ := Option.bind_eq_some_iff.mp h2
    cases x with
    | unset => exact (setAt_size h4).trans e1
    | second => exact (setAt_size h4).trans e1
    | val old =>
      dsimp only at h4
      split at h4
      · obtain ⟨y, h5, h6⟩ := Option.bind_eq_some_iff.mp h4
        exact (setAt_size h6).trans ((setAt_size h5).trans e1)
      · exact (setAt_size h4).trans e1
  · cases h2; exact e1
theorem store_size {l l' : Array Slot} {i : Nat} {v : Value} (h : storeLocals l i v = some l') : l'.size = l.size := by
  simp only [storeLocals, Option.bind_eq_bind, Option.bind_eq_some_iff] at h
  obtain ⟨x, h1, h2⟩ := h
  cases x with
  | unset => exact storeSelf_size h2
  | second =>
    obtain ⟨y, h3, h4⟩ := Option.bind_eq_some_iff.mp h2
    exact (storeSelf_size h4).trans (setAt_size h3)
  | val old =>
    dsimp only at h2
    split at h2
    · obtain ⟨y, h3, h4⟩ := Option.bind_eq_some_iff.mp h2
      exact (storeSelf_size h4).trans (setAt_size h3)
    · exact storeSelf_size h2
/-- a variable that may be written over by a value of one word -/
def k1 (o : Slot) : Prop := o = .unset ∨ ∃ w, o = .val w ∧ w.category = 1
def k2 (o o2 : Slot) : Prop := (o = .unset ∧ o2 = .unset) ∨ ∃ u, o = .val (.long u) ∧ o2 = .second
theorem setAt_l {L : List Slot} {k : Nat} {x : Slot} (h : k < L.length) : setAt L.toArray k x = some (L.set k x).toArray := by simp [setAt, h]
theorem get_l {L : List Slot} {k : Nat} {o : Slot} (h : L[k]? = some o) : L.toArray[k]? = some o := by rw [List.getElem?_toArray]; exact h
theorem store_u {L : List Slot} {k : Nat} {v : Value} (h : L[k]? = some .unset) : storeLocals L.toArray k v = storeSelf L.toArray k v := by
  simp only [storeLocals, Option.bind_eq_bind, get_l h, Option.bind_some]
theorem store_1 {L : List Slot} {k : Nat} {v w : Value} (h : L[k]? = some (.val w)) (hw : w.category = 1) : storeLocals L.toArray k v = storeSelf L.toArray k v := by
  simp only [storeLocals, Option.bind_eq_bind, get_l h, Option.bind_some]
  rw [if_neg (by rw [hw]; decide)]
theorem store_k {L : List Slot} {k : Nat} {v : Value} {o : Slot} (h : L[k]? = some o) (ho : k1 o) : storeLocals L.toArray k v = storeSelf L.toArray k v := by
  rcases ho with rfl | ⟨w, rfl, hw⟩
  · exact store_u h
  · exact store_1 h hw
theorem store_2 {L : List Slot} {k : Nat} {v w : Value} (h : L[k]? = some (.val w)) (hw : w.category = 2) (l2 : k + 1 < L.length) : storeLocals L.toArray k v = storeSelf (L.set (k + 1) .unset).toArray k v := by
  simp only [storeLocals, Option.bind_eq_bind, get_l h, Option.bind_some]
  rw [if_pos hw, setAt_l l2, Option.bind_some]
theorem self_1 {L : List Slot} {k : Nat} {v : Value} (hv : v.category = 1) (l : k < L.length) : storeSelf L.toArray k v = some (L.set k (.val v)).toArray := by
  simp only [storeSelf, Option.bind_eq_bind, setAt_l l, Option.bind_some]
  rw [if_neg (by rw [hv]; decide)]
theorem self_2 {L : List Slot} {k : Nat} {v : Value} {o : Slot} (hv : v.category = 2) (h : L[k + 1]? = some o) (ho : k1 o ∨ o = .second) (l : k < L.length) : storeSelf L.toArray k v = some ((L.set k (.val v)).set (k + 1) .second).toArray := by
  have l2 := (List.getElem?_eq_some_iff.mp h).1
  have e2 : (L.set k (.val v))[k + 1]? = some o := by rw [List.getElem?_set_ne (by omega)]; exact h
  simp only [storeSelf, Option.bind_eq_bind, setAt_l l, Option.bind_some]
  rw [if_pos hv, get_l e2, Option.bind_some]
  rcases ho with (rfl | ⟨w, rfl, hw⟩) | rfl
  · exact setAt_l (by rw [List.length_set]; exact l2)
  · dsimp only
    rw [if_neg (by rw [hw]; decide)]
    exact setAt_l (by rw [List.length_set]; exact l2)
  · exact setAt_l (by rw [List.length_set]; exact l2)
theorem self_3 {L : List Slot} {k : Nat} {v w : Value} (hv : v.category = 2) (h : L[k + 1]? = some (.val w)) (hw : w.category = 2) (l3 : k + 2 < L.length) (l : k < L.length) : storeSelf L.toArray k v = some (((L.set k (.val v)).set (k + 2) .unset).set (k + 1) .second).toArray := by
  have l2 := (List.getElem?_eq_some_iff.mp h).1
  have e2 : (L.set k (.val v))[k + 1]? = some (.val w) := by rw [List.getElem?_set_ne (by omega)]; exact h
  simp only [storeSelf, Option.bind_eq_bind, setAt_l l, Option.bind_some]
  rw [if_pos hv, get_l e2, Option.bind_some]
  dsimp only
  rw [if_pos hw, setAt_l (by rw [List.length_set]; exact l3), Option.bind_some, setAt_l (by rw [List.length_set, List.length_set]; exact l2)]
theorem stx {L : List Slot} {k : Nat} {o : Slot} {v : Value} (h : L[k]? = some o) (ho : k1 o) (hv : v.category = 1) : storeLocals L.toArray k v = some (L.set k (.val v)).toArray := by
  rw [store_k h ho, self_1 hv (List.getElem?_eq_some_iff.mp h).1]
theorem stx3 {L : List Slot} {k : Nat} {o o2 : Slot} {u : Int64} (h : L[k]? = some o) (h2 : L[k + 1]? = some o2) (ho : k1 o) (ho2 : k1 o2) : storeLocals L.toArray k (.long u) = some ((L.set k (.val (.long u))).set (k + 1) .second).toArray := by
  rw [store_k h ho, self_2 rfl h2 (Or.inl ho2) (List.getElem?_eq_some_iff.mp h).1]
theorem stx2 {L : List Slot} {k : Nat} {o o2 : Slot} {u : Int64} (h : L[k]? = some o) (h2 : L[k + 1]? = some o2) (ho : k2 o o2) : storeLocals L.toArray k (.long u) = some ((L.set k (.val (.long u))).set (k + 1) .second).toArray := by
  have l1 := (List.getElem?_eq_some_iff.mp h).1
  have l2 := (List.getElem?_eq_some_iff.mp h2).1
  rcases ho with ⟨rfl, rfl⟩ | ⟨u', rfl, rfl⟩
  · exact stx3 h h2 (Or.inl rfl) (Or.inl rfl)
  · rw [store_2 h rfl l2, self_2 (o := .unset) rfl (by rw [List.getElem?_set_self l2]) (Or.inl (Or.inl rfl)) (by rw [List.length_set]; exact l1)]
    rw [List.set_comm _ _ (show k + 1 ≠ k by omega), List.set_set]
theorem stx4 {L : List Slot} {k : Nat} {o2 : Slot} {w : Int64} {v : Value} (h : L[k]? = some (.val (.long w))) (h2 : L[k + 1]? = some o2) (hv : v.category = 1) : storeLocals L.toArray k v = some ((L.set (k + 1) .unset).set k (.val v)).toArray := by
  rw [store_2 h rfl (List.getElem?_eq_some_iff.mp h2).1, self_1 hv (by rw [List.length_set]; exact (List.getElem?_eq_some_iff.mp h).1)]
theorem stx5 {L : List Slot} {k : Nat} {o o3 : Slot} {w u : Int64} (h : L[k]? = some o) (ho : k1 o) (h2 : L[k + 1]? = some (.val (.long w))) (h3 : L[k + 2]? = some o3) : storeLocals L.toArray k (.long u) = some (((L.set k (.val (.long u))).set (k + 2) .unset).set (k + 1) .second).toArray := by
  rw [store_k h ho, self_3 rfl h2 rfl (List.getElem?_eq_some_iff.mp h3).1 (List.getElem?_eq_some_iff.mp h).1]
/-- a tail of dead variables -/
def wtf : Slot ⊕ Int64 → List Slot
  | .inl x => [x]
  | .inr u => [.val (.long u), .second]
def WT (D : List Slot) : Prop := ∃ l : List (Slot ⊕ Int64), D = l.flatMap wtf ∧ ∀ x, Sum.inl x ∈ l → k1 x
theorem wt0 : WT [] := ⟨[], rfl, fun _ h => nomatch h⟩
theorem wt1 {x : Slot} {D : List Slot} (h : k1 x) (W : WT D) : WT (x :: D) := by
  obtain ⟨l, rfl, g⟩ := W
  refine ⟨.inl x :: l, by simp [wtf], fun y hy => ?_⟩
  rcases List.mem_cons.mp hy with e | e
  · cases e; exact h
  · exact g y e
theorem wt2 {u : Int64} {D : List Slot} (W : WT D) : WT (.val (.long u) :: .second :: D) := by
  obtain ⟨l, rfl, g⟩ := W
  refine ⟨.inr u :: l, by simp [wtf], fun y hy => ?_⟩
  rcases List.mem_cons.mp hy with e | e
  · cases e
  · exact g y e
theorem wt12 {x y : Slot} {D : List Slot} (h : k2 x y) (W : WT D) : WT (x :: y :: D) := by
  rcases h with ⟨rfl, rfl⟩ | ⟨u, rfl, rfl⟩
  · exact wt1 (Or.inl rfl) (wt1 (Or.inl rfl) W)
  · exact wt2 W
theorem wt_cases {D : List Slot} (W : WT D) : D = [] ∨ (∃ x E, D = x :: E ∧ k1 x ∧ WT E) ∨ ∃ u E, D = .val (.long u) :: .second :: E ∧ WT E := by
  obtain ⟨l, rfl, g⟩ := W
  match l, g with
  | [], _ => exact Or.inl rfl
  | .inl x :: r, g => exact Or.inr (Or.inl ⟨x, r.flatMap wtf, by simp [wtf], g x (List.mem_cons_self ..), r, rfl, fun y hy => g y (List.mem_cons_of_mem _ hy)⟩)
  | .inr u :: r, g => exact Or.inr (Or.inr ⟨u, r.flatMap wtf, by simp [wtf], r, rfl, fun y hy => g y (List.mem_cons_of_mem _ hy)⟩)
theorem stT {L0 D : List Slot} {v : Value} {n : Nat} (W : WT D) (hl : D.length = n + 1) (hv : v.category = 1) : ∃ D', WT D' ∧ D'.length = n ∧ storeLocals (L0 ++ D).toArray L0.length v = some (L0 ++ ([.val v] : List Slot) ++ D').toArray := by
  rcases wt_cases W with rfl | ⟨x, E, rfl, hx, WE⟩ | ⟨u, E, rfl, WE⟩
  · simp at hl
  · refine ⟨E, WE, by simpa using hl, ?_⟩
    rw [stx (o := x) (by simp) hx hv]; simp
  · refine ⟨.unset :: E, wt1 (Or.inl rfl) WE, by simpa using hl, ?_⟩
    rw [stx4 (w := u) (o2 := .second) (by simp) (by rw [List.getElem?_append_right (by omega)]; simp) hv]
    simp [List.set_append]
theorem stT2 {L0 D : List Slot} {u : Int64} {n : Nat} (W : WT D) (hl : D.length = n + 2) : ∃ D', WT D' ∧ D'.length = n ∧ storeLocals (L0 ++ D).toArray L0.length (.long u) = some (L0 ++ ([.val (.long u), .second] : List Slot) ++ D').toArray := by
  rcases wt_cases W with rfl | ⟨x, E, rfl, hx, WE⟩ | ⟨w, E, rfl, WE⟩
  · simp at hl
  · rcases wt_cases WE with rfl | ⟨y, F, rfl, hy, WF⟩ | ⟨w, F, rfl, WF⟩
    · simp at hl
    · refine ⟨F, WF, by simpa using hl, ?_⟩
      rw [stx3 (o := x) (o2 := y) (by simp) (by rw [List.getElem?_append_right (by omega)]; simp) hx hy]
      simp [List.set_append]
    · refine ⟨.unset :: F, wt1 (Or.inl rfl) WF, by simpa using hl, ?_⟩
      rw [stx5 (o := x) (w := w) (o3 := .second) (by simp) hx (by rw [List.getElem?_append_right (by omega)]; simp) (by rw [List.getElem?_append_right (by omega)]; simp)]
      simp [List.set_append]
  · refine ⟨E, WE, by simpa using hl, ?_⟩
    rw [stx2 (o := .val (.long w)) (o2 := .second) (by simp) (by rw [List.getElem?_append_right (by omega)]; simp) (Or.inr ⟨w, rfl, rfl⟩)]
    simp [List.set_append]
/-- the variables at a method's entry -/
def argL : List Value → List Slot
  | [] => []
  | v :: r => if v.category = 2 then .val v :: .second :: argL r else .val v :: argL r
def entryL (as : List Value) (n : Nat) : List Slot := argL as ++ List.replicate (n - (argL as).length) .unset
theorem argL_fold : ∀ (as : List Value) (acc : List Slot), as.foldl (fun acc v => if v.category = 2 then (acc.push (.val v)).push .second else acc.push (.val v)) acc.toArray = (acc ++ argL as).toArray
  | [], acc => by simp [argL]
  | v :: r, acc => by
    simp only [List.foldl_cons, argL]
    split
    · rename_i q
      rw [show ((acc.toArray.push (Slot.val v)).push Slot.second) = (acc ++ [Slot.val v, Slot.second]).toArray by simp, argL_fold r]
      simp
    · rename_i q
      rw [show (acc.toArray.push (Slot.val v)) = (acc ++ [Slot.val v]).toArray by simp, argL_fold r]
      simp
theorem argL_map (α b : Nat) : ∀ as : List Value, argL (cV α b as) = (argL as).map (cs α b)
  | [] => rfl
  | v :: r => by
    have ih := argL_map α b r
    simp only [cV, List.map_cons, argL, con_cat] at ih ⊢
    split <;> simp [ih, cs]
theorem entry_locals (α b : Nat) (as : List Value) (n : Nat) : argsToLocals (cV α b as).toArray n = cL α b (entryL as n) := by
  have h := argL_fold (cV α b as) []
  simp only [List.nil_append] at h
  have h' : (cV α b as).toArray.foldl (fun acc v => if v.category = 2 then (acc.push (Slot.val v)).push Slot.second else acc.push (Slot.val v)) #[] = (argL (cV α b as)).toArray := by
    rw [← h]; simp
  simp only [argsToLocals]
  rw [h', argL_map]
  simp [cL, entryL, List.map_append, cs]
/-! ## 3. What the heap shows -/
def scV (ty : FieldType) (s : S) (f : Nat) : Value := match ty with
  | .long => .long (gL s f)
  | _ => .int (gI s f)
def arV (ty : FieldType) (s : S) (q : Nat) : List Value := match ty with
  | .long => (gB s q).map .long
  | _ => (gA s q).map .int
def Ar (Z : State) (h : Heap) (a : Nat) (ty : FieldType) (vs : List Value) : Prop := ∃ c : Cell, Arr Z h a c ty ∧ c.slots = vs.toArray
def Rep1 (Z : State) (ci : CI) (h : Heap) (b : Nat) (o : Nat × S) : Prop :=
  Exa Z h b (cN ci) ∧ (∀ f x, (cS ci)[f]? = some x → Fld Z h b (cN ci) x.1 x.2.1 (scV x.2.2 o.2 f)) ∧
  (∀ q x, (cA ci)[q]? = some x → Fld Z h b (cN ci) x.1 x.2.1 (if q < o.1 then .ref (b + 1 + q) else .null)) ∧
  (∀ q x, (cA ci)[q]? = some x → q < o.1 → Ar Z h (b + 1 + q) x.2.2.1 (arV x.2.2.1 o.2 q))
def RepW (Z : State) (ci : CI) (α b : Nat) (w : W) (h : Heap) : Prop :=
  (∀ l, w.1 = some l → Ar Z h α .int (l.map .int) ∧ α < b) ∧ ∀ i o, w.2[i]? = some o → Rep1 Z ci h (b + (cK ci + 1) * i) o
def Frm (lo hi : Nat) (h0 h : Heap) : Prop := ∀ (x : Nat) (c : Cell), h0[x]? = some c → (x < lo ∨ hi ≤ x) → h[x]? = some c
def usedC (w : W) : Nat := (w.2.map fun o => 1 + o.1).sum
def usedS (ci : CI) (w : W) : Nat := (w.2.map fun o => cF ci + (((cA ci).take o.1).map fun x => x.2.2.2).sum).sum
/-- what the sheet says of the class -/
def Facts (Z : State) (a0 : Array Value) (ci : CI) : Prop :=
  (Jvm.Cond.instantiable (cN ci) (cF ci)).before a0 Z = true ∧ (Jvm.Cond.initialized (cN ci)).before a0 Z = true ∧
  (∀ (f : Nat) (x : String × String × FieldType), (cS ci)[f]? = some x → Laid Z a0 (cN ci) (cN ci) x.1 x.2.1 ∧ parseFieldDescriptor x.2.1 = some x.2.2) ∧
  (∀ (q : Nat) (x : String × String × FieldType × Nat), (cA ci)[q]? = some x → Laid Z a0 (cN ci) (cN ci) x.1 x.2.1 ∧ parseFieldDescriptor x.2.1 = some (.array x.2.2.1)) ∧
  ((cS ci).map (fun x => x.1) ++ (cA ci).map (fun x => x.1)).Nodup ∧ (∀ f x, (cS ci)[f]? = some x → defaultValue x.2.2 = scV x.2.2 s0 f) ∧ (cN ci ≠ "java/lang/invoke/MethodHandle" ∧ cN ci ≠ "java/lang/invoke/VarHandle")
theorem nq {a b : Nat} (h : a ≠ b) : @Ne Addr a b := h
theorem Ar.frm {Z : State} {h h' : Heap} {a : Nat} {ty : FieldType} {vs : List Value} (A : Ar Z h a ty vs) (k : ∀ c, h[a]? = some c → h'[a]? = some c) : Ar Z h' a ty vs := by
  obtain ⟨c, ⟨q1, q2⟩, q3⟩ := A; exact ⟨c, ⟨k c q1, q2⟩, q3⟩
theorem fld_frm {Z : State} {h h' : Heap} {a : Nat} {C n d : String} {v : Value} (F : Fld Z h a C n d v) (k : ∀ c, h[a]? = some c → h'[a]? = some c) : Fld Z h' a C n d v := by
  obtain ⟨cell, cf, kc, i, f, h1, r⟩ := F; exact ⟨cell, cf, kc, i, f, k _ h1, r⟩
theorem exa_frm {Z : State} {h h' : Heap} {a : Nat} {C : String} (F : Exa Z h a C) (k : ∀ c, h[a]? = some c → h'[a]? = some c) : Exa Z h' a C := by
  obtain ⟨cell, kc, h1, r⟩ := F; exact ⟨cell, kc, k _ h1, r⟩
theorem get_lt {A : Type} {l : List A} {i : Nat} {x : A} (h : l[i]? = some x) : i < l.length := (List.getElem?_eq_some_iff.mp h).1
theorem Rep1.frm {Z : State} {ci : CI} {h h' : Heap} {b : Nat} {o : Nat × S} (F : Rep1 Z ci h b o) (k : ∀ x c, b ≤ x → x < b + (cK ci + 1) → h[x]? = some c → h'[x]? = some c) : Rep1 Z ci h' b o := by
  obtain ⟨f1, f2, f3, f4⟩ := F
  refine ⟨exa_frm f1 fun c => k b c (Nat.le_refl _) (by omega), fun f x hx => fld_frm (f2 f x hx) fun c => k b c (Nat.le_refl _) (by omega), fun q x hx => fld_frm (f3 q x hx) fun c => k b c (Nat.le_refl _) (by omega), fun q x hx hq => (f4 q x hx hq).frm fun c => k _ c (by omega) ?_⟩
  have := get_lt hx
  simp only [cK]; omega
theorem RepW.ext {Z : State} {ci : CI} {α b : Nat} {w : W} {h h' : Heap} (F : RepW Z ci α b w h) (E : Ext h h') : RepW Z ci α b w h' :=
  ⟨fun l hl => ⟨((F.1 l hl).1).frm fun c q => E.2 _ _ q, (F.1 l hl).2⟩, fun i o ho => (F.2 i o ho).frm fun x c _ _ q => E.2 _ _ q⟩
theorem Frm.refl (lo hi : Nat) (h : Heap) : Frm lo hi h h := fun _ _ q _ => q
theorem Frm.trans {lo hi : Nat} {h0 h1 h2 : Heap} (A : Frm lo hi h0 h1) (B : Frm lo hi h1 h2) : Frm lo hi h0 h2 := fun x c q r => B x c (A x c q r) r
theorem Frm.wide {lo hi lo' hi' : Nat} {h0 h1 : Heap} (A : Frm lo hi h0 h1) (q1 : lo' ≤ lo) (q2 : hi ≤ hi') : Frm lo' hi' h0 h1 := fun x c q r => A x c q (by omega)
theorem Frm.ext {lo hi : Nat} {h0 h1 h2 : Heap} (A : Frm lo hi h0 h1) (E : Ext h1 h2) : Frm lo hi h0 h2 := fun x c q r => E.2 _ _ (A x c q r)
theorem Frm.wr {lo hi : Nat} {h0 h1 h2 : Heap} {a : Nat} {sl : Nat} {v : Value} (A : Frm lo hi h0 h1) (Wt : Wr h1 h2 a sl v) (q1 : lo ≤ a) (q2 : a < hi) : Frm lo hi h0 h2 := fun x c q r => by
  have q3 := A x c q r
  obtain ⟨c', e1, -, -, -, e5, -⟩ := wr_at Wt q3
  have : x ≠ a := by omega
  rw [← e5 this]; exact e1
/-! ## 4. The walk -/
def Ok (P : PI) (M : Meth) (Z : State) (a0 : Array Value) (p : Program) (R : Room) (s : State) (m : MethodId) (meth : Method) (c : Code) (b n0 : Nat) (h0 : Heap) (uC uS : Nat) : Prop :=
  (∀ d ∈ P.1, d.before a0 Z = true) ∧ Facts Z a0 P.2 ∧ p.tables.exec = Jvm.exec ∧ Z.Warmed39 s.vm ∧ s.vm.findClass (mY M).cls = some m.cls ∧ c.code = mB M ∧ c.maxLocals = mL M ∧ meth.sig.returnType = mT M ∧ meth.name = (mY M).name ∧ R = mR M ∧ n0 ≤ b ∧
  (mTop M = true → h0.size = b + uC ∧ uC = mUC M ∧ uS = mUS M) ∧ s.heap.size = h0.size
def Inv (P : PI) (M : Meth) (l : Launch) (Z : State) (p : Program) (e : Env) (R : Room) (s : State) (m : MethodId) (args : Array Value) (below : List Frame) (meth : Method) (c : Code) (α b n0 : Nat) (h0 : Heap) (uC uS : Nat) (w : W) (T : State) (locs : List Loc) (cells slots : Nat) : Prop :=
  Stand p l e R s m args below meth c T locs cells slots ∧ RepW Z P.2 α b w T.heap ∧ Frm b (b + (cK P.2 + 1) * mN M) h0 T.heap ∧ Fr n0 locs ∧ T.heap.size = h0.size + cells ∧ cells + uC = usedC w ∧ slots + uS = usedS P.2 w ∧ cells ≤ R.cells ∧ slots ≤ R.slots ∧ w.2.length ≤ mN M
def Lv (e : Env) (T : State) (m : MethodId) (r : Option Value) (fs : List Frame) : Prop := ∀ (f : JFrame) (acts : List Action), f.method = m → f.locked = none → f.entered = [] → (doReturn e (T.setTop f) acts r).1 = T.setFrames fs
/-- from here the invocation comes to its end, with this value and this world -/
def Go (P : PI) (M : Meth) (pc : Nat) (L : List Slot) (st : List Value) (w : W) (out : Option Value × W) : Prop :=
  L.length = mL M → ∀ (l : Launch) (Z : State) (a0 : Array Value) (p : Program) (e : Env) (R : Room) (s : State) (m : MethodId) (args : Array Value) (below : List Frame) (meth : Method) (c : Code) (α b n0 : Nat) (h0 : Heap) (uC uS : Nat),
    Ok P M Z a0 p R s m meth c b n0 h0 uC uS → ∀ (T : State) (locs : List Loc) (cells slots : Nat), Inv P M l Z p e R s m args below meth c α b n0 h0 uC uS w T locs cells slots →
    ∃ (T' : State) (locs' : List Loc) (cells' slots' : Nat), Inv P M l Z p e R s m args below meth c α b n0 h0 uC uS out.2 T' locs' cells' slots' ∧
      ∀ fs, Lv e T' m (out.1.map (con α b)) fs → Steps p.tables e below (T.setTop (mkF m pc (cL α b L) (cV α b st))) (T'.setFrames fs)
section Rules
variable {P : PI} {M : Meth} {pc pc' : Nat} {L L' : List Slot} {st st' : List Value} {w w' : W} {out : Option Value × W} {x y z v : Int32} {u r : Int64}
theorem go_mv (hL : L.length = mL M → L'.length = mL M)
    (H : ∀ {p : Program} {e : Env} {below : List Frame} {T target : State} {m : MethodId} {c : Code}, At T m c below → p.tables.exec = Jvm.exec → c.code = mB M → ∀ α b : Nat, Steps p.tables e below (T.setTop (mkF m pc' (cL α b L') (cV α b st'))) target → Steps p.tables e below (T.setTop (mkF m pc (cL α b L) (cV α b st))) target)
    (k : Go P M pc' L' st' w out) : Go P M pc L st w out := by
  intro hl l Z a0 p e R s m args below meth c α b n0 h0 uC uS ok T locs cells slots I
  obtain ⟨T', l', c', n', I', fin⟩ := k (hL hl) l Z a0 p e R s m args below meth c α b n0 h0 uC uS ok T locs cells slots I
  exact ⟨T', l', c', n', I', fun fs hv => H I.1.here ok.2.2.1 ok.2.2.2.2.2.1 α b (fin fs hv)⟩
theorem go_ch (H : ∀ (l : Launch) (Z : State) (a0 : Array Value) (p : Program) (e : Env) (R : Room) (s : State) (m : MethodId) (args : Array Value) (below : List Frame) (meth : Method) (c : Code) (α b n0 : Nat) (h0 : Heap) (uC uS : Nat),
      Ok P M Z a0 p R s m meth c b n0 h0 uC uS → L.length = mL M → ∀ (T : State) (locs : List Loc) (cells slots : Nat), Inv P M l Z p e R s m args below meth c α b n0 h0 uC uS w T locs cells slots →
      ∃ (T' : State) (locs' : List Loc) (cells' slots' : Nat), Inv P M l Z p e R s m args below meth c α b n0 h0 uC uS w' T' locs' cells' slots' ∧
        ∀ target, Steps p.tables e below (T'.setTop (mkF m pc' (cL α b L) (cV α b st'))) target → Steps p.tables e below (T.setTop (mkF m pc (cL α b L) (cV α b st))) target)
    (k : Go P M pc' L st' w' out) : Go P M pc L st w out := by
  intro hl l Z a0 p e R s m args below meth c α b n0 h0 uC uS ok T locs cells slots I
  obtain ⟨T1, l1, c1, n1, I1, h1⟩ := H l Z a0 p e R s m args below meth c α b n0 h0 uC uS ok hl T locs cells slots I
  obtain ⟨T', l', c', n', I', fin⟩ := k hl l Z a0 p e R s m args below meth c α b n0 h0 uC uS ok T1 l1 c1 n1 I1
  exact ⟨T', l', c', n', I', fun fs hv => h1 _ (fin fs hv)⟩
/-! ### loads, stores, constants -/
theorem go_iloadN {k : Fin 4} (d : decode (mB M) pc = .ok (.iload_n k, 1)) (hl : L[k.val]? = some (.val (.int v))) (g : Go P M (pc + 1) L (.int v :: st) w out) : Go P M pc L (st) w out :=
  go_mv id (fun h hx hc α b r => XS.iloadN (g := mkF _ pc (cL α b L) (cV α b (st))) h hx rfl (hb hc d) (cL_get hl) r) g
theorem go_iload {k : Nat} (d : decode (mB M) pc = .ok (.iload k, 2)) (hl : L[k]? = some (.val (.int v))) (g : Go P M (pc + 2) L (.int v :: st) w out) : Go P M pc L (st) w out :=
  go_mv id (fun h hx hc α b r => XS.iload (g := mkF _ pc (cL α b L) (cV α b (st))) h hx rfl (hb hc d) (cL_get hl) r) g
theorem go_lloadN {k : Fin 4} (d : decode (mB M) pc = .ok (.lload_n k, 1)) (hl : L[k.val]? = some (.val (.long u))) (g : Go P M (pc + 1) L (.long u :: st) w out) : Go P M pc L (st) w out :=
  go_mv id (fun h hx hc α b r => XT.lloadN (g := mkF _ pc (cL α b L) (cV α b (st))) h hx rfl (hb hc d) (cL_get hl) r) g
theorem go_lload {k : Nat} (d : decode (mB M) pc = .ok (.lload k, 2)) (hl : L[k]? = some (.val (.long u))) (g : Go P M (pc + 2) L (.long u :: st) w out) : Go P M pc L (st) w out :=
  go_mv id (fun h hx hc α b r => XT.lload (g := mkF _ pc (cL α b L) (cV α b (st))) h hx rfl (hb hc d) (cL_get hl) r) g
theorem go_aloadN {k : Fin 4} {a : Nat} (d : decode (mB M) pc = .ok (.aload_n k, 1)) (hl : L[k.val]? = some (.val (.ref a))) (g : Go P M (pc + 1) L (.ref a :: st) w out) : Go P M pc L (st) w out :=
  go_mv id (fun h hx hc α b r => XS.aloadN (g := mkF _ pc (cL α b L) (cV α b (st))) h hx rfl (hb hc d) (cL_get hl) (con_ref α b (.ref a)) r) g
theorem go_aload {k : Nat} {a : Nat} (d : decode (mB M) pc = .ok (.aload k, 2)) (hl : L[k]? = some (.val (.ref a))) (g : Go P M (pc + 2) L (.ref a :: st) w out) : Go P M pc L (st) w out :=
  go_mv id (fun h hx hc α b r => XS.aload (g := mkF _ pc (cL α b L) (cV α b (st))) h hx rfl (hb hc d) (cL_get hl) (con_ref α b (.ref a)) r) g
theorem go_istoreN {k : Fin 4} (d : decode (mB M) pc = .ok (.istore_n k, 1)) (hl : storeLocals L.toArray k.val (.int x) = some L'.toArray) (g : Go P M (pc + 1) L' (st) w out) : Go P M pc L (.int x :: st) w out :=
  go_mv (fun q => by have := store_size hl; simp at this; omega) (fun h hx hc α b r => XS.istoreN (g := mkF _ pc (cL α b L) (cV α b (.int x :: st))) h hx rfl (hb hc d) rfl (storeC hl) r) g
theorem go_istore {k : Nat} (d : decode (mB M) pc = .ok (.istore k, 2)) (hl : storeLocals L.toArray k (.int x) = some L'.toArray) (g : Go P M (pc + 2) L' (st) w out) : Go P M pc L (.int x :: st) w out :=
  go_mv (fun q => by have := store_size hl; simp at this; omega) (fun h hx hc α b r => XS.istore (g := mkF _ pc (cL α b L) (cV α b (.int x :: st))) h hx rfl (hb hc d) rfl (storeC hl) r) g
theorem go_lstoreN {k : Fin 4} (d : decode (mB M) pc = .ok (.lstore_n k, 1)) (hl : storeLocals L.toArray k.val (.long u) = some L'.toArray) (g : Go P M (pc + 1) L' (st) w out) : Go P M pc L (.long u :: st) w out :=
  go_mv (fun q => by have := store_size hl; simp at this; omega) (fun h hx hc α b r => XT.lstoreN (g := mkF _ pc (cL α b L) (cV α b (.long u :: st))) h hx rfl (hb hc d) rfl (storeC hl) r) g
theorem go_lstore {k : Nat} (d : decode (mB M) pc = .ok (.lstore k, 2)) (hl : storeLocals L.toArray k (.long u) = some L'.toArray) (g : Go P M (pc + 2) L' (st) w out) : Go P M pc L (.long u :: st) w out :=
  go_mv (fun q => by have := store_size hl; simp at this; omega) (fun h hx hc α b r => XT.lstore (g := mkF _ pc (cL α b L) (cV α b (.long u :: st))) h hx rfl (hb hc d) rfl (storeC hl) r) g
theorem go_astoreN {k : Fin 4} {a : Nat} (d : decode (mB M) pc = .ok (.astore_n k, 1)) (hl : storeLocals L.toArray k.val (.ref a) = some L'.toArray) (g : Go P M (pc + 1) L' (st) w out) : Go P M pc L (.ref a :: st) w out :=
  go_mv (fun q => by have := store_size hl; simp at this; omega) (fun h hx hc α b r => XS.astoreN (g := mkF _ pc (cL α b L) (cV α b (.ref a :: st))) h hx rfl (hb hc d) rfl (con_ref α b (.ref a)) (storeC hl) r) g
theorem go_astore {k : Nat} {a : Nat} (d : decode (mB M) pc = .ok (.astore k, 2)) (hl : storeLocals L.toArray k (.ref a) = some L'.toArray) (g : Go P M (pc + 2) L' (st) w out) : Go P M pc L (.ref a :: st) w out :=
  go_mv (fun q => by have := store_size hl; simp at this; omega) (fun h hx hc α b r => XS.astore (g := mkF _ pc (cL α b L) (cV α b (.ref a :: st))) h hx rfl (hb hc d) rfl (con_ref α b (.ref a)) (storeC hl) r) g
theorem go_istoreNT {k : Fin 4} {L0 L1 D : List Slot} {n : Nat} (d : decode (mB M) pc = .ok (.istore_n k, 1)) (hk : k.val = L0.length) (h1 : L1 = L0 ++ [.val (.int x)]) (W : WT D) (hl : D.length = n + 1) (g : ∀ D', WT D' → D'.length = n → Go P M (pc + 1) (L1 ++ D') st w out) : Go P M pc (L0 ++ D) (.int x :: st) w out := by
  obtain ⟨D', W', l', e⟩ := stT (L0 := L0) (v := .int x) W hl rfl
  subst h1
  exact go_istoreN d (by rw [hk]; exact e) (g D' W' l')
theorem go_istoreT {k : Nat} {L0 L1 D : List Slot} {n : Nat} (d : decode (mB M) pc = .ok (.istore k, 2)) (hk : k = L0.length) (h1 : L1 = L0 ++ [.val (.int x)]) (W : WT D) (hl : D.length = n + 1) (g : ∀ D', WT D' → D'.length = n → Go P M (pc + 2) (L1 ++ D') st w out) : Go P M pc (L0 ++ D) (.int x :: st) w out := by
  obtain ⟨D', W', l', e⟩ := stT (L0 := L0) (v := .int x) W hl rfl
  subst h1
  exact go_istore d (by rw [hk]; exact e) (g D' W' l')
theorem go_astoreNT {k : Fin 4} {L0 L1 D : List Slot} {n : Nat} {a : Nat} (d : decode (mB M) pc = .ok (.astore_n k, 1)) (hk : k.val = L0.length) (h1 : L1 = L0 ++ [.val (.ref a)]) (W : WT D) (hl : D.length = n + 1) (g : ∀ D', WT D' → D'.length = n → Go P M (pc + 1) (L1 ++ D') st w out) : Go P M pc (L0 ++ D) (.ref a :: st) w out := by
  obtain ⟨D', W', l', e⟩ := stT (L0 := L0) (v := .ref a) W hl rfl
  subst h1
  exact go_astoreN d (by rw [hk]; exact e) (g D' W' l')
theorem go_astoreT {k : Nat} {L0 L1 D : List Slot} {n : Nat} {a : Nat} (d : decode (mB M) pc = .ok (.astore k, 2)) (hk : k = L0.length) (h1 : L1 = L0 ++ [.val (.ref a)]) (W : WT D) (hl : D.length = n + 1) (g : ∀ D', WT D' → D'.length = n → Go P M (pc + 2) (L1 ++ D') st w out) : Go P M pc (L0 ++ D) (.ref a :: st) w out := by
  obtain ⟨D', W', l', e⟩ := stT (L0 := L0) (v := .ref a) W hl rfl
  subst h1
  exact go_astore d (by rw [hk]; exact e) (g D' W' l')
theorem go_lstoreNT {k : Fin 4} {L0 L1 D : List Slot} {n : Nat} (d : decode (mB M) pc = .ok (.lstore_n k, 1)) (hk : k.val = L0.length) (h1 : L1 = L0 ++ [.val (.long u), .second]) (W : WT D) (hl : D.length = n + 2) (g : ∀ D', WT D' → D'.length = n → Go P M (pc + 1) (L1 ++ D') st w out) : Go P M pc (L0 ++ D) (.long u :: st) w out := by
  obtain ⟨D', W', l', e⟩ := stT2 (L0 := L0) (u := u) W hl
  subst h1
  exact go_lstoreN d (by rw [hk]; exact e) (g D' W' l')
theorem go_lstoreT {k : Nat} {L0 L1 D : List Slot} {n : Nat} (d : decode (mB M) pc = .ok (.lstore k, 2)) (hk : k = L0.length) (h1 : L1 = L0 ++ [.val (.long u), .second]) (W : WT D) (hl : D.length = n + 2) (g : ∀ D', WT D' → D'.length = n → Go P M (pc + 2) (L1 ++ D') st w out) : Go P M pc (L0 ++ D) (.long u :: st) w out := by
  obtain ⟨D', W', l', e⟩ := stT2 (L0 := L0) (u := u) W hl
  subst h1
  exact go_lstore d (by rw [hk]; exact e) (g D' W' l')
theorem go_iconst {i : Int} (d : decode (mB M) pc = .ok (.iconst i, 1)) (hv : v = Int32.ofInt i) (g : Go P M (pc + 1) L (.int v :: st) w out) : Go P M pc L (st) w out :=
  go_mv id (fun h hx hc α b r => XS.iconst (g := mkF _ pc (cL α b L) (cV α b (st))) h hx rfl (hb hc d) (hv ▸ r)) g
theorem go_bipush {i : Int} (d : decode (mB M) pc = .ok (.bipush i, 2)) (hv : v = (Int8.ofInt i).toInt32) (g : Go P M (pc + 2) L (.int v :: st) w out) : Go P M pc L (st) w out :=
  go_mv id (fun h hx hc α b r => XS.bipush (g := mkF _ pc (cL α b L) (cV α b (st))) h hx rfl (hb hc d) (hv ▸ r)) g
theorem go_sipush {i : Int} (d : decode (mB M) pc = .ok (.sipush i, 3)) (hv : v = (Int16.ofInt i).toInt32) (g : Go P M (pc + 3) L (.int v :: st) w out) : Go P M pc L (st) w out :=
  go_mv id (fun h hx hc α b r => XS.sipush (g := mkF _ pc (cL α b L) (cV α b (st))) h hx rfl (hb hc d) (hv ▸ r)) g
theorem go_lconst {i : Fin 2} (d : decode (mB M) pc = .ok (.lconst i, 1)) (hv : u = Int64.ofNat i) (g : Go P M (pc + 1) L (.long u :: st) w out) : Go P M pc L (st) w out :=
  go_mv id (fun h hx hc α b r => XT.lconst (g := mkF _ pc (cL α b L) (cV α b (st))) h hx rfl (hb hc d) (hv ▸ r)) g
theorem go_dup  (d : decode (mB M) pc = .ok (.dup, 1))  (g : Go P M (pc + 1) L (.int x :: .int x :: st) w out) : Go P M pc L (.int x :: st) w out :=
  go_mv id (fun h hx hc α b r => XS.dup (g := mkF _ pc (cL α b L) (cV α b (.int x :: st))) h hx rfl (hb hc d) rfl rfl r) g
theorem go_dupR {a : Nat} (d : decode (mB M) pc = .ok (.dup, 1))  (g : Go P M (pc + 1) L (.ref a :: .ref a :: st) w out) : Go P M pc L (.ref a :: st) w out :=
  go_mv id (fun h hx hc α b r => XS.dup (g := mkF _ pc (cL α b L) (cV α b (.ref a :: st))) h hx rfl (hb hc d) rfl (con_cat α b (.ref a)) r) g
theorem go_dup2 {a : Nat} (d : decode (mB M) pc = .ok (.dup2, 1))  (g : Go P M (pc + 1) L (.int x :: .ref a :: .int x :: .ref a :: st) w out) : Go P M pc L (.int x :: .ref a :: st) w out :=
  go_mv id (fun h hx hc α b r => XT.dup2 (g := mkF _ pc (cL α b L) (cV α b (.int x :: .ref a :: st))) h hx rfl (hb hc d) rfl rfl (con_cat α b (.ref a)) r) g
theorem go_dup2I  (d : decode (mB M) pc = .ok (.dup2, 1))  (g : Go P M (pc + 1) L (.int x :: .int y :: .int x :: .int y :: st) w out) : Go P M pc L (.int x :: .int y :: st) w out :=
  go_mv id (fun h hx hc α b r => XT.dup2 (g := mkF _ pc (cL α b L) (cV α b (.int x :: .int y :: st))) h hx rfl (hb hc d) rfl rfl rfl r) g
theorem go_dup2L  (d : decode (mB M) pc = .ok (.dup2, 1))  (g : Go P M (pc + 1) L (.long u :: .long u :: st) w out) : Go P M pc L (.long u :: st) w out :=
  go_mv id (fun h hx hc α b r => XT.dup2L (g := mkF _ pc (cL α b L) (cV α b (.long u :: st))) h hx rfl (hb hc d) rfl r) g
theorem go_pop  (d : decode (mB M) pc = .ok (.pop, 1))  (g : Go P M (pc + 1) L (st) w out) : Go P M pc L (.int x :: st) w out :=
  go_mv id (fun h hx hc α b r => XT.pop (g := mkF _ pc (cL α b L) (cV α b (.int x :: st))) h hx rfl (hb hc d) rfl rfl r) g
theorem go_iadd  (d : decode (mB M) pc = .ok (.iadd, 1))  (g : Go P M (pc + 1) L (.int (x + y) :: st) w out) : Go P M pc L (.int y :: .int x :: st) w out :=
  go_mv id (fun h hx hc α b r => XS.iadd (g := mkF _ pc (cL α b L) (cV α b (.int y :: .int x :: st))) h hx rfl (hb hc d) rfl r) g
theorem go_isub  (d : decode (mB M) pc = .ok (.isub, 1))  (g : Go P M (pc + 1) L (.int (x - y) :: st) w out) : Go P M pc L (.int y :: .int x :: st) w out :=
  go_mv id (fun h hx hc α b r => XS.isub (g := mkF _ pc (cL α b L) (cV α b (.int y :: .int x :: st))) h hx rfl (hb hc d) rfl r) g
theorem go_imul  (d : decode (mB M) pc = .ok (.imul, 1))  (g : Go P M (pc + 1) L (.int (x * y) :: st) w out) : Go P M pc L (.int y :: .int x :: st) w out :=
  go_mv id (fun h hx hc α b r => XS.imul (g := mkF _ pc (cL α b L) (cV α b (.int y :: .int x :: st))) h hx rfl (hb hc d) rfl r) g
theorem go_iand  (d : decode (mB M) pc = .ok (.iand, 1))  (g : Go P M (pc + 1) L (.int (x &&& y) :: st) w out) : Go P M pc L (.int y :: .int x :: st) w out :=
  go_mv id (fun h hx hc α b r => XS.iand (g := mkF _ pc (cL α b L) (cV α b (.int y :: .int x :: st))) h hx rfl (hb hc d) rfl r) g
theorem go_ior  (d : decode (mB M) pc = .ok (.ior, 1))  (g : Go P M (pc + 1) L (.int (x ||| y) :: st) w out) : Go P M pc L (.int y :: .int x :: st) w out :=
  go_mv id (fun h hx hc α b r => XT.ior (g := mkF _ pc (cL α b L) (cV α b (.int y :: .int x :: st))) h hx rfl (hb hc d) rfl r) g
theorem go_ixor  (d : decode (mB M) pc = .ok (.ixor, 1))  (g : Go P M (pc + 1) L (.int (x ^^^ y) :: st) w out) : Go P M pc L (.int y :: .int x :: st) w out :=
  go_mv id (fun h hx hc α b r => XT.ixor (g := mkF _ pc (cL α b L) (cV α b (.int y :: .int x :: st))) h hx rfl (hb hc d) rfl r) g
theorem go_ishl  (d : decode (mB M) pc = .ok (.ishl, 1))  (g : Go P M (pc + 1) L (.int (x <<< (y &&& 31)) :: st) w out) : Go P M pc L (.int y :: .int x :: st) w out :=
  go_mv id (fun h hx hc α b r => XT.ishl (g := mkF _ pc (cL α b L) (cV α b (.int y :: .int x :: st))) h hx rfl (hb hc d) rfl r) g
theorem go_ishr  (d : decode (mB M) pc = .ok (.ishr, 1))  (g : Go P M (pc + 1) L (.int (x >>> (y &&& 31)) :: st) w out) : Go P M pc L (.int y :: .int x :: st) w out :=
  go_mv id (fun h hx hc α b r => XT.ishr (g := mkF _ pc (cL α b L) (cV α b (.int y :: .int x :: st))) h hx rfl (hb hc d) rfl r) g
theorem go_iushr  (d : decode (mB M) pc = .ok (.iushr, 1))  (g : Go P M (pc + 1) L (.int (XT.ushr x y) :: st) w out) : Go P M pc L (.int y :: .int x :: st) w out :=
  go_mv id (fun h hx hc α b r => XT.iushr (g := mkF _ pc (cL α b L) (cV α b (.int y :: .int x :: st))) h hx rfl (hb hc d) rfl r) g
theorem go_idiv  (d : decode (mB M) pc = .ok (.idiv, 1)) (hy : y ≠ 0) (g : Go P M (pc + 1) L (.int (x / y) :: st) w out) : Go P M pc L (.int y :: .int x :: st) w out :=
  go_mv id (fun h hx hc α b r => XS.idiv (g := mkF _ pc (cL α b L) (cV α b (.int y :: .int x :: st))) h hx rfl (hb hc d) rfl hy r) g
theorem go_irem  (d : decode (mB M) pc = .ok (.irem, 1)) (hy : y ≠ 0) (g : Go P M (pc + 1) L (.int (x % y) :: st) w out) : Go P M pc L (.int y :: .int x :: st) w out :=
  go_mv id (fun h hx hc α b r => XS.irem (g := mkF _ pc (cL α b L) (cV α b (.int y :: .int x :: st))) h hx rfl (hb hc d) rfl hy (by rw [irem_eq_mod x y]; exact r)) g
theorem go_ineg  (d : decode (mB M) pc = .ok (.ineg, 1))  (g : Go P M (pc + 1) L (.int (-x) :: st) w out) : Go P M pc L (.int x :: st) w out :=
  go_mv id (fun h hx hc α b r => XS.ineg (g := mkF _ pc (cL α b L) (cV α b (.int x :: st))) h hx rfl (hb hc d) rfl r) g
theorem go_ladd  (d : decode (mB M) pc = .ok (.ladd, 1))  (g : Go P M (pc + 1) L (.long (u + r) :: st) w out) : Go P M pc L (.long r :: .long u :: st) w out :=
  go_mv id (fun h hx hc α b k => XT.ladd (g := mkF _ pc (cL α b L) (cV α b (.long r :: .long u :: st))) h hx rfl (hb hc d) rfl k) g
theorem go_lsub  (d : decode (mB M) pc = .ok (.lsub, 1))  (g : Go P M (pc + 1) L (.long (u - r) :: st) w out) : Go P M pc L (.long r :: .long u :: st) w out :=
  go_mv id (fun h hx hc α b k => XT.lsub (g := mkF _ pc (cL α b L) (cV α b (.long r :: .long u :: st))) h hx rfl (hb hc d) rfl k) g
theorem go_lmul  (d : decode (mB M) pc = .ok (.lmul, 1))  (g : Go P M (pc + 1) L (.long (u * r) :: st) w out) : Go P M pc L (.long r :: .long u :: st) w out :=
  go_mv id (fun h hx hc α b k => XT.lmul (g := mkF _ pc (cL α b L) (cV α b (.long r :: .long u :: st))) h hx rfl (hb hc d) rfl k) g
theorem go_land  (d : decode (mB M) pc = .ok (.land, 1))  (g : Go P M (pc + 1) L (.long (u &&& r) :: st) w out) : Go P M pc L (.long r :: .long u :: st) w out :=
  go_mv id (fun h hx hc α b k => XT.land (g := mkF _ pc (cL α b L) (cV α b (.long r :: .long u :: st))) h hx rfl (hb hc d) rfl k) g
theorem go_lor  (d : decode (mB M) pc = .ok (.lor, 1))  (g : Go P M (pc + 1) L (.long (u ||| r) :: st) w out) : Go P M pc L (.long r :: .long u :: st) w out :=
  go_mv id (fun h hx hc α b k => XT.lor (g := mkF _ pc (cL α b L) (cV α b (.long r :: .long u :: st))) h hx rfl (hb hc d) rfl k) g
theorem go_lxor  (d : decode (mB M) pc = .ok (.lxor, 1))  (g : Go P M (pc + 1) L (.long (u ^^^ r) :: st) w out) : Go P M pc L (.long r :: .long u :: st) w out :=
  go_mv id (fun h hx hc α b k => XT.lxor (g := mkF _ pc (cL α b L) (cV α b (.long r :: .long u :: st))) h hx rfl (hb hc d) rfl k) g
theorem go_lshl  (d : decode (mB M) pc = .ok (.lshl, 1))  (g : Go P M (pc + 1) L (.long (u <<< (y.toInt64 &&& 63)) :: st) w out) : Go P M pc L (.int y :: .long u :: st) w out :=
  go_mv id (fun h hx hc α b r => XT.lshl (g := mkF _ pc (cL α b L) (cV α b (.int y :: .long u :: st))) h hx rfl (hb hc d) rfl r) g
theorem go_lshr  (d : decode (mB M) pc = .ok (.lshr, 1))  (g : Go P M (pc + 1) L (.long (u >>> (y.toInt64 &&& 63)) :: st) w out) : Go P M pc L (.int y :: .long u :: st) w out :=
  go_mv id (fun h hx hc α b r => XT.lshr (g := mkF _ pc (cL α b L) (cV α b (.int y :: .long u :: st))) h hx rfl (hb hc d) rfl r) g
theorem go_lushr  (d : decode (mB M) pc = .ok (.lushr, 1))  (g : Go P M (pc + 1) L (.long (XT.ushrL u y) :: st) w out) : Go P M pc L (.int y :: .long u :: st) w out :=
  go_mv id (fun h hx hc α b r => XT.lushr (g := mkF _ pc (cL α b L) (cV α b (.int y :: .long u :: st))) h hx rfl (hb hc d) rfl r) g
theorem go_lcmp  (d : decode (mB M) pc = .ok (.lcmp, 1))  (g : Go P M (pc + 1) L (.int (XT.cmpL u r) :: st) w out) : Go P M pc L (.long r :: .long u :: st) w out :=
  go_mv id (fun h hx hc α b k => XT.lcmp (g := mkF _ pc (cL α b L) (cV α b (.long r :: .long u :: st))) h hx rfl (hb hc d) rfl k) g
theorem go_i2l  (d : decode (mB M) pc = .ok (.i2l, 1))  (g : Go P M (pc + 1) L (.long x.toInt64 :: st) w out) : Go P M pc L (.int x :: st) w out :=
  go_mv id (fun h hx hc α b r => XT.i2l (g := mkF _ pc (cL α b L) (cV α b (.int x :: st))) h hx rfl (hb hc d) rfl r) g
theorem go_l2i  (d : decode (mB M) pc = .ok (.l2i, 1))  (g : Go P M (pc + 1) L (.int u.toInt32 :: st) w out) : Go P M pc L (.long u :: st) w out :=
  go_mv id (fun h hx hc α b r => XT.l2i (g := mkF _ pc (cL α b L) (cV α b (.long u :: st))) h hx rfl (hb hc d) rfl r) g
theorem go_i2b  (d : decode (mB M) pc = .ok (.i2b, 1))  (g : Go P M (pc + 1) L (.int x.toInt8.toInt32 :: st) w out) : Go P M pc L (.int x :: st) w out :=
  go_mv id (fun h hx hc α b r => XT.i2b (g := mkF _ pc (cL α b L) (cV α b (.int x :: st))) h hx rfl (hb hc d) rfl r) g
theorem go_iinc {k : Nat} {i : Int} (d : decode (mB M) pc = .ok (.iinc k i, 3)) (h1 : L[k]? = some (.val (.int x))) (hv : v = Int32.ofInt i) (hl : storeLocals L.toArray k (.int (x + v)) = some L'.toArray) (g : Go P M (pc + 3) L' (st) w out) : Go P M pc L (st) w out :=
  by subst hv; exact go_mv (fun q => by have := store_size hl; simp at this; omega) (fun h hx hc α b r => XS.iinc (g := mkF _ pc (cL α b L) (cV α b (st))) h hx rfl (hb hc d) (cL_get h1) (storeC hl) r) g
theorem go_goto {o : Int} (d : decode (mB M) pc = .ok (.goto o, 3)) (hp : 0 ≤ (pc : Int) + o ∧ ((pc : Int) + o).toNat = pc') (g : Go P M pc' L (st) w out) : Go P M pc L (st) w out :=
  go_mv id (fun h hx hc α b r => XS.goto (g := mkF _ pc (cL α b L) (cV α b (st))) h hx rfl rfl (hb hc d) hp.1 hp.2 r) g
theorem go_ifY {cd : ClassFile.Cond} {o : Int} (d : decode (mB M) pc = .ok (.ifCond cd o, 3)) (hq : ifCond.holds cd x = true) (hp : 0 ≤ (pc : Int) + o ∧ ((pc : Int) + o).toNat = pc') (g : Go P M pc' L (st) w out) : Go P M pc L (.int x :: st) w out :=
  go_mv id (fun h hx hc α b r => XS.ifYes (g := mkF _ pc (cL α b L) (cV α b (.int x :: st))) h hx rfl rfl (hb hc d) rfl hq hp.1 hp.2 r) g
theorem go_ifN {cd : ClassFile.Cond} {o : Int} (d : decode (mB M) pc = .ok (.ifCond cd o, 3)) (hq : ifCond.holds cd x = false) (g : Go P M (pc + 3) L (st) w out) : Go P M pc L (.int x :: st) w out :=
  go_mv id (fun h hx hc α b r => XS.ifNo (g := mkF _ pc (cL α b L) (cV α b (.int x :: st))) h hx rfl (hb hc d) rfl hq r) g
theorem go_icY {cd : ClassFile.Cond} {o : Int} (d : decode (mB M) pc = .ok (.if_icmp cd o, 3)) (hq : if_icmp.holds cd x y = true) (hp : 0 ≤ (pc : Int) + o ∧ ((pc : Int) + o).toNat = pc') (g : Go P M pc' L (st) w out) : Go P M pc L (.int y :: .int x :: st) w out :=
  go_mv id (fun h hx hc α b r => XS.icmpYes (g := mkF _ pc (cL α b L) (cV α b (.int y :: .int x :: st))) h hx rfl rfl (hb hc d) rfl hq hp.1 hp.2 r) g
theorem go_icN {cd : ClassFile.Cond} {o : Int} (d : decode (mB M) pc = .ok (.if_icmp cd o, 3)) (hq : if_icmp.holds cd x y = false) (g : Go P M (pc + 3) L (st) w out) : Go P M pc L (.int y :: .int x :: st) w out :=
  go_mv id (fun h hx hc α b r => XS.icmpNo (g := mkF _ pc (cL α b L) (cV α b (.int y :: .int x :: st))) h hx rfl (hb hc d) rfl hq r) g
theorem go_nonnull {o : Int} (d : decode (mB M) pc = .ok (.ifnonnull o, 3)) (hp : 0 ≤ (pc : Int) + o ∧ ((pc : Int) + o).toNat = pc') (g : Go P M pc' L st w out) : Go P M pc L (.ref 0 :: st) w out :=
  go_mv id (fun h hx hc α b r => XT.ifnonnullYes (g := mkF _ pc (cL α b L) (cV α b (.ref 0 :: st))) (b := α) h hx rfl rfl (hb hc d) rfl hp.1 hp.2 r) g
theorem go_tswIn {dflt low high : Int} {offs : Array Int} {len : Nat} {o : Int} (d : decode (mB M) pc = .ok (.tableswitch dflt low high offs, len)) (hin : ¬ (x.toInt < low ∨ x.toInt > high)) (hoff : offs[(x.toInt - low).toNat]? = some o) (hp : 0 ≤ (pc : Int) + o ∧ ((pc : Int) + o).toNat = pc') (g : Go P M pc' L st w out) : Go P M pc L (.int x :: st) w out :=
  go_mv id (fun h hx hc α b r => XS.tswIn (g := mkF _ pc (cL α b L) (cV α b (.int x :: st))) h hx rfl rfl (hb hc d) rfl hin hoff hp.1 hp.2 r) g
theorem go_tswOut {dflt low high : Int} {offs : Array Int} {len : Nat} (d : decode (mB M) pc = .ok (.tableswitch dflt low high offs, len)) (hout : x.toInt < low ∨ x.toInt > high) (hp : 0 ≤ (pc : Int) + dflt ∧ ((pc : Int) + dflt).toNat = pc') (g : Go P M pc' L st w out) : Go P M pc L (.int x :: st) w out :=
  go_mv id (fun h hx hc α b r => XS.tswOut (g := mkF _ pc (cL α b L) (cV α b (.int x :: st))) h hx rfl rfl (hb hc d) rfl hout hp.1 hp.2 r) g
/-! ### constants of the pool -/
theorem go_ldc {k : Nat} (d : decode (mB M) pc = .ok (.ldc k, 2)) (hk : Jvm.Cond.constant (mY M).cls k v ∈ P.1) (g : Go P M (pc + 2) L (.int v :: st) w out) : Go P M pc L st w out :=
  go_ch (fun l Z a0 p e R s m args below meth c α b n0 h0 uC uS ok hl T locs cells slots I => ⟨T, locs, cells, slots, I, fun target r => Stand.ldcI (g := mkF m pc (cL α b L) (cV α b st)) I.1 ok.2.2.1 ok.2.2.2.2.1 (mvT ok.2.2.2.1 (ok.1 _ hk)) rfl (hb ok.2.2.2.2.2.1 d) r⟩) g
theorem go_ldcW {k : Nat} (d : decode (mB M) pc = .ok (.ldc_w k, 3)) (hk : Jvm.Cond.constant (mY M).cls k v ∈ P.1) (g : Go P M (pc + 3) L (.int v :: st) w out) : Go P M pc L st w out :=
  go_ch (fun l Z a0 p e R s m args below meth c α b n0 h0 uC uS ok hl T locs cells slots I => ⟨T, locs, cells, slots, I, fun target r => Stand.ldcWI (g := mkF m pc (cL α b L) (cV α b st)) I.1 ok.2.2.1 ok.2.2.2.2.1 (mvT ok.2.2.2.1 (ok.1 _ hk)) rfl (hb ok.2.2.2.2.2.1 d) r⟩) g
theorem go_ldc2 {k : Nat} (d : decode (mB M) pc = .ok (.ldc2_w k, 3)) (hk : Jvm.Cond.constantLong (mY M).cls k u ∈ P.1) (g : Go P M (pc + 3) L (.long u :: st) w out) : Go P M pc L st w out :=
  go_ch (fun l Z a0 p e R s m args below meth c α b n0 h0 uC uS ok hl T locs cells slots I => ⟨T, locs, cells, slots, I, fun target r => Stand.ldc2J (g := mkF m pc (cL α b L) (cV α b st)) I.1 ok.2.2.1 ok.2.2.2.2.1 (mvT ok.2.2.2.1 (ok.1 _ hk)) rfl (hb ok.2.2.2.2.2.1 d) r⟩) g
/-! ### returns -/
theorem go_iret (hT : mT M = some .int) (d : decode (mB M) pc = .ok (.ireturn, 1)) : Go P M pc L (.int x :: st) w (some (.int x), w) := by
  intro hl l Z a0 p e R s m args below meth c α b n0 h0 uC uS ok T locs cells slots I
  exact ⟨T, locs, cells, slots, I, fun fs hv => retOut I.1 ok.2.2.1 (t := .int) (ok.2.2.2.2.2.2.2.1.trans hT) rfl (Or.inl ⟨rfl, Or.inl rfl, x, rfl⟩) (hb ok.2.2.2.2.2.1 d) hv⟩
theorem go_zret (hT : mT M = some .boolean) (d : decode (mB M) pc = .ok (.ireturn, 1)) (hz : v = nar .boolean x) : Go P M pc L (.int x :: st) w (some (.int v), w) := by
  intro hl l Z a0 p e R s m args below meth c α b n0 h0 uC uS ok T locs cells slots I
  subst hz
  exact ⟨T, locs, cells, slots, I, fun fs hv => retN I.1 ok.2.2.1 (t := .boolean) (ok.2.2.2.2.2.2.2.1.trans hT) (Or.inl rfl) (hb ok.2.2.2.2.2.1 d) hv⟩
theorem go_lret (hT : mT M = some .long) (d : decode (mB M) pc = .ok (.lreturn, 1)) : Go P M pc L (.long u :: st) w (some (.long u), w) := by
  intro hl l Z a0 p e R s m args below meth c α b n0 h0 uC uS ok T locs cells slots I
  exact ⟨T, locs, cells, slots, I, fun fs hv => retOut I.1 ok.2.2.1 (t := .long) (ok.2.2.2.2.2.2.2.1.trans hT) rfl (Or.inr (Or.inl ⟨rfl, rfl, u, rfl⟩)) (hb ok.2.2.2.2.2.1 d) hv⟩
theorem go_ret (hT : mT M = none) (d : decode (mB M) pc = .ok (.return_, 1)) : Go P M pc L [] w (none, w) := by
  intro hl l Z a0 p e R s m args below meth c α b n0 h0 uC uS ok T locs cells slots I
  exact ⟨T, locs, cells, slots, I, fun fs hv => I.1.returnOut ok.2.2.1 (ok.2.2.2.2.2.2.2.1.trans hT) (hb ok.2.2.2.2.2.1 d) hv⟩
/-! ### fields -/
variable {o o' : Nat × S} {s : S} {k n : Nat}
theorem rep_one {Z : State} {ci : CI} {α b : Nat} {h : Heap} (F : RepW Z ci α b (none, [o]) h) : Rep1 Z ci h b o := by
  have := F.2 0 o rfl
  simpa using this
theorem rep_mk {Z : State} {ci : CI} {α b : Nat} {h : Heap} (F : Rep1 Z ci h b o) : RepW Z ci α b (none, [o]) h :=
  ⟨fun l hl => (nomatch hl), fun i o1 ho => by
    cases i with
    | zero => cases ho; simpa using F
    | succ i => simp at ho⟩
/-- the entry idx names the scalar field number f; of type ty -/
def FldS (P : PI) (idx f : Nat) (ty : FieldType) : Prop := ∃ nm ds, (cS P.2)[f]? = some (nm, ds, ty) ∧ Jvm.Cond.fieldLink (cN P.2) idx (cN P.2) nm ds ∈ P.1
def FldA (P : PI) (idx q : Nat) (ty : FieldType) : Prop := ∃ nm ds cap, (cA P.2)[q]? = some (nm, ds, ty, cap) ∧ Jvm.Cond.fieldLink (cN P.2) idx (cN P.2) nm ds ∈ P.1
theorem go_getV {idx f : Nat} {ty : FieldType} (F : FldS P idx f ty) (hM : (mY M).cls = cN P.2) (d : decode (mB M) pc = .ok (.getfield idx, 3)) {vv : Value} (hv : vv = scV ty s f) (hr : ∀ α b, con α b vv = vv) (g : Go P M (pc + 3) L (vv :: st) (none, [(k, s)]) out) : Go P M pc L (.ref 1 :: st) (none, [(k, s)]) out :=
  go_ch (fun l Z a0 p e R s1 m args below meth c α b n0 h0 uC uS ok hl T locs cells slots I => by
    obtain ⟨nm, ds, f1, f2⟩ := F
    obtain ⟨hw, fa, hx, hZ, hown, hc, hml, hret, hnm, hR, hn0, htop, hsz⟩ := ok
    obtain ⟨X, Rp, Fm, Nl, hs, u1, u2, c1, c2, hN⟩ := I
    have Fd := (rep_one Rp).2.1 f _ f1
    rw [hM] at hown
    obtain ⟨T', X', e', stp⟩ := getF X hx hZ hown (host := "") (Or.inl (hw _ f2)) Via.refl rfl Fd (g := mkF m pc (cL α b L) (cV α b (.ref 1 :: st))) rfl rfl (hb hc d)
    refine ⟨T', locs, cells, slots, ⟨X', by rw [e']; exact Rp, by rw [e']; exact Fm, Nl, by rw [e']; exact hs, u1, u2, c1, c2, hN⟩, fun target r => stp target ?_⟩
    rw [show cV α b (vv :: st) = con α b vv :: cV α b st from rfl, hr, hv] at r
    exact r) g
theorem go_getI {idx f : Nat} (F : FldS P idx f .int) (hM : (mY M).cls = cN P.2) (d : decode (mB M) pc = .ok (.getfield idx, 3)) (g : Go P M (pc + 3) L (.int (gI s f) :: st) (none, [(k, s)]) out) : Go P M pc L (.ref 1 :: st) (none, [(k, s)]) out :=
  go_getV F hM d rfl (fun _ _ => rfl) g
theorem go_getZ {idx f : Nat} (F : FldS P idx f .boolean) (hM : (mY M).cls = cN P.2) (d : decode (mB M) pc = .ok (.getfield idx, 3)) (g : Go P M (pc + 3) L (.int (gI s f) :: st) (none, [(k, s)]) out) : Go P M pc L (.ref 1 :: st) (none, [(k, s)]) out :=
  go_getV F hM d rfl (fun _ _ => rfl) g
theorem go_getJ {idx f : Nat} (F : FldS P idx f .long) (hM : (mY M).cls = cN P.2) (d : decode (mB M) pc = .ok (.getfield idx, 3)) (g : Go P M (pc + 3) L (.long (gL s f) :: st) (none, [(k, s)]) out) : Go P M pc L (.ref 1 :: st) (none, [(k, s)]) out :=
  go_getV F hM d rfl (fun _ _ => rfl) g
theorem go_getA {idx q : Nat} {ty : FieldType} (F : FldA P idx q ty) (hM : (mY M).cls = cN P.2) (d : decode (mB M) pc = .ok (.getfield idx, 3)) (hq : Nat.blt q k = true) (g : Go P M (pc + 3) L (.ref (q + 2) :: st) (none, [(k, s)]) out) : Go P M pc L (.ref 1 :: st) (none, [(k, s)]) out :=
  go_ch (fun l Z a0 p e R s1 m args below meth c α b n0 h0 uC uS ok hl T locs cells slots I => by
    obtain ⟨nm, ds, cap, f1, f2⟩ := F
    obtain ⟨hw, fa, hx, hZ, hown, hc, hml, hret, hnm, hR, hn0, htop, hsz⟩ := ok
    obtain ⟨X, Rp, Fm, Nl, hs, u1, u2, c1, c2, hN⟩ := I
    have Fd := (rep_one Rp).2.2.1 q _ f1
    rw [if_pos (show q < (k, s).1 by simpa [Nat.blt_eq] using hq)] at Fd
    rw [hM] at hown
    obtain ⟨T', X', e', stp⟩ := getF X hx hZ hown (host := "") (Or.inl (hw _ f2)) Via.refl rfl Fd (g := mkF m pc (cL α b L) (cV α b (.ref 1 :: st))) rfl rfl (hb hc d)
    refine ⟨T', locs, cells, slots, ⟨X', by rw [e']; exact Rp, by rw [e']; exact Fm, Nl, by rw [e']; exact hs, u1, u2, c1, c2, hN⟩, fun target r => stp target ?_⟩
    rw [show cV α b (.ref (q + 2) :: st) = .ref (b + (q + 1)) :: cV α b st from rfl] at r
    rw [show b + 1 + q = b + (q + 1) by omega]
    exact r) g
/-- another scalar of the object takes its value -/
theorem rep_put {Z : State} {a0 : Array Value} {ci : CI} {h h' : Heap} {b : Nat} {s s' : S} {k f : Nat} {nm ds : String} {ty : FieldType} {vv : Value} (fa : Facts Z a0 ci) (F : Rep1 Z ci h b (k, s)) (hf : (cS ci)[f]? = some (nm, ds, ty))
    (Wt : Wr h h' b (Jvm.RoadKit.slotOf Z (cN ci) nm ds) vv) (hv : vv = scV ty s' f) (ho : ∀ f' x, (cS ci)[f']? = some x → f' ≠ f → scV x.2.2 s' f' = scV x.2.2 s f') (ha : gA s' = gA s) (hbb : gB s' = gB s) : Rep1 Z ci h' b (k, s') := by
  obtain ⟨f1, f2, f3, f4⟩ := F
  obtain ⟨-, -, g1, g2, g3, -⟩ := fa
  have lt := get_lt hf
  refine ⟨f1.wr Wt, fun f' x hx => ?_, fun q x hx => ?_, fun q x hx hq => ?_⟩
  · by_cases e : f' = f
    · subst e
      cases hf.symm.trans hx
      show Fld Z h' b (cN ci) nm ds (scV ty s' f')
      rw [← hv]; exact (f2 f' _ hf).same Wt
    · have lt' := get_lt hx
      show Fld Z h' b (cN ci) x.1 x.2.1 (scV x.2.2 s' f')
      rw [ho f' x hx e]
      refine (f2 f' x hx).other Wt (Or.inr ?_)
      refine slot_ne (g1 f' x hx).1 (g1 f _ hf).1 ?_ (g1 f' x hx).2 (g1 f _ hf).2
      intro en
      have n1 : ((cS ci).map (fun x => x.1) ++ (cA ci).map (fun x => x.1))[f']? = some x.1 := by rw [List.getElem?_append_left (by simpa using lt')]; simp [hx]
      have n2 : ((cS ci).map (fun x => x.1) ++ (cA ci).map (fun x => x.1))[f]? = some nm := by rw [List.getElem?_append_left (by simpa using lt)]; simp [hf]
      rw [en] at n1
      obtain ⟨i1, j1⟩ := List.getElem?_eq_some_iff.mp n1
      obtain ⟨i2, j2⟩ := List.getElem?_eq_some_iff.mp n2
      exact e ((List.getElem_inj g3).mp (j1.trans j2.symm))
  · refine (f3 q x hx).other Wt (Or.inr ?_)
    have lt' := get_lt hx
    refine slot_ne (g2 q x hx).1 (g1 f _ hf).1 ?_ (g2 q x hx).2 (g1 f _ hf).2
    intro en
    have n1 : ((cS ci).map (fun x => x.1) ++ (cA ci).map (fun x => x.1))[(cS ci).length + q]? = some x.1 := by rw [List.getElem?_append_right (by simp)]; simp [hx]
    have n2 : ((cS ci).map (fun x => x.1) ++ (cA ci).map (fun x => x.1))[f]? = some nm := by rw [List.getElem?_append_left (by simpa using lt)]; simp [hf]
    rw [en] at n1
    obtain ⟨i1, j1⟩ := List.getElem?_eq_some_iff.mp n1
    obtain ⟨i2, j2⟩ := List.getElem?_eq_some_iff.mp n2
    have := (List.getElem_inj g3).mp (j1.trans j2.symm)
    omega
  · obtain ⟨c, A, e⟩ := f4 q x hx hq
    refine ⟨c, A.other Wt (nq (by omega)), e.trans ?_⟩
    show (arV x.2.2.1 s q).toArray = (arV x.2.2.1 s' q).toArray
    unfold arV
    split <;> simp [ha, hbb]
theorem go_putV {idx f : Nat} {ty : FieldType} {vv : Value} {s' : S} (F : FldS P idx f ty) (hM : (mY M).cls = cN P.2)
    (hlays : ∀ nm ds, (cS P.2)[f]? = some (nm, ds, ty) → Jvm.Cond.lays (cN P.2) (cN P.2) nm ds ∈ P.1 ∨ (Jvm.Cond.laysFinal (cN P.2) (cN P.2) nm ds ∈ P.1 ∧ (mY M).name = "<init>"))
    (hpos : 0 < mN M) (hr : ∀ α b, con α b vv = vv) (hn : narrow ty vv = vv) (hfi : fits ty vv = true) (hv : vv = scV ty s' f) (ho : ∀ f' x, (cS P.2)[f']? = some x → f' ≠ f → scV x.2.2 s' f' = scV x.2.2 s f') (ha : gA s' = gA s) (hbb : gB s' = gB s)
    (d : decode (mB M) pc = .ok (.putfield idx, 3)) (g : Go P M (pc + 3) L st (none, [(k, s')]) out) : Go P M pc L (vv :: .ref 1 :: st) (none, [(k, s)]) out :=
  go_ch (fun l Z a0 p e R s1 m args below meth c α b n0 h0 uC uS ok hl T locs cells slots I => by
    obtain ⟨nm, ds, f1, f2⟩ := F
    obtain ⟨hw, fa, hx, hZ, hown, hc, hml, hret, hnm, hR, hn0, htop, hsz⟩ := ok
    obtain ⟨X, Rp, Fm, Nl, hs, u1, u2, c1, c2, hN⟩ := I
    have Rp1 := rep_one Rp
    have Fd := Rp1.2.1 f _ f1
    rw [hM] at hown
    obtain ⟨T', h', X', e', Wt, stp⟩ := putF X hx hZ hown (host := "") (Or.inl (hw _ f2)) Via.refl rfl Fd Rp1.1 ((hlays nm ds f1).imp (fun q => hw _ q) (fun q => ⟨hw _ q.1, rfl, hnm.trans q.2⟩)) fa.1 (fa.2.2.1 f _ f1).2 hn hfi (g := mkF m pc (cL α b L) (vv :: .ref b :: cV α b st)) rfl rfl (hb hc d)
    refine ⟨T', _, cells, slots, ⟨X', rep_mk (by rw [e']; exact rep_put fa Rp1 f1 Wt hv ho ha hbb), by rw [e']; exact Fm.wr Wt (Nat.le_refl _) (by have := Nat.mul_le_mul_left (cK P.2 + 1) hpos; omega), Fr.snoc X' Nl hn0, by rw [e', Wt.size]; exact hs, u1, u2, c1, c2, hN⟩, fun target r => ?_⟩
    rw [show cV α b (vv :: .ref 1 :: st) = con α b vv :: .ref b :: cV α b st from rfl, hr]
    exact stp target r) g
theorem scV_sI (s : S) (f : Nat) (x : Int32) (ty : FieldType) (f' : Nat) (h : f' ≠ f) : scV ty (sI s f x) f' = scV ty s f' := by
  unfold scV; split <;> simp [gI_sI, gL_sI, h]
theorem scV_sL (s : S) (f : Nat) (x : Int64) (ty : FieldType) (f' : Nat) (h : f' ≠ f) : scV ty (sL s f x) f' = scV ty s f' := by
  unfold scV; split <;> simp [gI_sL, gL_sL, h]
/-- the word that lets the field be written -/
def Wrt (P : PI) (M : Meth) (f : Nat) : Prop := ∃ nm ds ty, (cS P.2)[f]? = some (nm, ds, ty) ∧ (Jvm.Cond.lays (cN P.2) (cN P.2) nm ds ∈ P.1 ∨ (Jvm.Cond.laysFinal (cN P.2) (cN P.2) nm ds ∈ P.1 ∧ (mY M).name = "<init>"))
theorem Wrt.use {f : Nat} {ty : FieldType} (h : Wrt P M f) : ∀ nm ds, (cS P.2)[f]? = some (nm, ds, ty) → Jvm.Cond.lays (cN P.2) (cN P.2) nm ds ∈ P.1 ∨ (Jvm.Cond.laysFinal (cN P.2) (cN P.2) nm ds ∈ P.1 ∧ (mY M).name = "<init>") := by
  obtain ⟨nm, ds, ty', h1, h2⟩ := h
  intro nm' ds' h3
  cases h1.symm.trans h3
  exact h2
theorem go_putI {idx f : Nat} (F : FldS P idx f .int) (hM : (mY M).cls = cN P.2) (hl : Wrt P M f) (hp : 0 < mN M) (d : decode (mB M) pc = .ok (.putfield idx, 3)) (g : Go P M (pc + 3) L st (none, [(k, sI s f x)]) out) : Go P M pc L (.int x :: .ref 1 :: st) (none, [(k, s)]) out :=
  go_putV F hM hl.use hp (fun _ _ => rfl) rfl rfl (by simp [scV, gI_sI]) (fun f' y _ h => scV_sI s f x _ f' h) rfl rfl d g
theorem go_putZ {idx f : Nat} (F : FldS P idx f .boolean) (hM : (mY M).cls = cN P.2) (hl : Wrt P M f) (hp : 0 < mN M) (hz : x = 0 ∨ x = 1) (d : decode (mB M) pc = .ok (.putfield idx, 3)) (g : Go P M (pc + 3) L st (none, [(k, sI s f x)]) out) : Go P M pc L (.int x :: .ref 1 :: st) (none, [(k, s)]) out :=
  go_putV F hM hl.use hp (fun _ _ => rfl) (by rcases hz with rfl | rfl <;> rfl) (by rcases hz with rfl | rfl <;> rfl) (by simp [scV, gI_sI]) (fun f' y _ h => scV_sI s f x _ f' h) rfl rfl d g
theorem go_putJ {idx f : Nat} (F : FldS P idx f .long) (hM : (mY M).cls = cN P.2) (hl : Wrt P M f) (hp : 0 < mN M) (d : decode (mB M) pc = .ok (.putfield idx, 3)) (g : Go P M (pc + 3) L st (none, [(k, sL s f u)]) out) : Go P M pc L (.long u :: .ref 1 :: st) (none, [(k, s)]) out :=
  go_putV F hM hl.use hp (fun _ _ => rfl) rfl rfl (by simp [scV, gL_sL]) (fun f' y _ h => scV_sL s f u _ f' h) rfl rfl d g
/-! ### arrays -/
theorem ix_some {A : Type} {l : List A} {j : Int32} {x : A} (h : ix l j = some x) : ¬ j < 0 ∧ l[j.toNatClampNeg]? = some x := by
  unfold ix at h; split at h
  · cases h
  · rename_i q; exact ⟨q, h⟩
theorem st_some {A : Type} {l l' : List A} {j : Int32} {x : A} (h : Jvm.AM.st l j x = some l') : ¬ j < 0 ∧ j.toNatClampNeg < l.length ∧ l' = l.set j.toNatClampNeg x := by
  unfold Jvm.AM.st at h; split at h
  · cases h
  · rename_i q; split at h
    · rename_i q2; cases h; exact ⟨q, q2, rfl⟩
    · cases h
theorem ar_in {c : Cell} {vs : List Value} {j : Int32} {vv : Value} (e : c.slots = vs.toArray) (h1 : ¬ j < 0) (h2 : vs[j.toNatClampNeg]? = some vv) : ¬ (j < 0 ∨ c.slots.size ≤ j.toNatClampNeg) ∧ c.slots[j.toNatClampNeg]? = some vv := by
  have := get_lt h2
  refine ⟨fun q => ?_, by rw [e]; simpa using h2⟩
  rcases q with q | q
  · exact h1 q
  · rw [e] at q; simp at q; omega
theorem go_iaload {q : Nat} {j : Int32} {nm ds : String} {cap : Nat} (ha : (cA P.2)[q]? = some (nm, ds, .int, cap)) (hq : Nat.blt q k = true) (hx : ix (gA s q) j = some v) (d : decode (mB M) pc = .ok (.iaload, 1)) (g : Go P M (pc + 1) L (.int v :: st) (none, [(k, s)]) out) : Go P M pc L (.int j :: .ref (q + 2) :: st) (none, [(k, s)]) out :=
  go_ch (fun l Z a0 p e R s1 m args below meth c α b n0 h0 uC uS ok hl T locs cells slots I => by
    obtain ⟨cl, A, ec⟩ := (rep_one I.2.1).2.2.2 q _ ha (by simpa [Nat.blt_eq] using hq)
    obtain ⟨h1, h2⟩ := ix_some hx
    obtain ⟨h3, h4⟩ := ar_in ec h1 (vv := .int v) (by simp [arV, h2])
    refine ⟨T, locs, cells, slots, I, fun target r => ?_⟩
    refine I.1.iaload ok.2.2.1 (j := j) (v := .int v) A.1 (State.isArrayOf_alike ok.2.2.2.1.alike A.2.1) A.2.2 h3 h4 (g := mkF m pc (cL α b L) (.int j :: .ref (b + 1 + q) :: cV α b st)) rfl rfl (hb ok.2.2.2.2.2.1 d) _ r |> fun t => ?_
    rw [show cV α b (.int j :: .ref (q + 2) :: st) = .int j :: .ref (b + (q + 1)) :: cV α b st from rfl, show b + (q + 1) = b + 1 + q by omega]
    exact t) g
theorem go_laload {q : Nat} {j : Int32} {nm ds : String} {cap : Nat} (ha : (cA P.2)[q]? = some (nm, ds, .long, cap)) (hq : Nat.blt q k = true) (hx : ix (gB s q) j = some u) (d : decode (mB M) pc = .ok (.laload, 1)) (g : Go P M (pc + 1) L (.long u :: st) (none, [(k, s)]) out) : Go P M pc L (.int j :: .ref (q + 2) :: st) (none, [(k, s)]) out :=
  go_ch (fun l Z a0 p e R s1 m args below meth c α b n0 h0 uC uS ok hl T locs cells slots I => by
    obtain ⟨cl, A, ec⟩ := (rep_one I.2.1).2.2.2 q _ ha (by simpa [Nat.blt_eq] using hq)
    obtain ⟨h1, h2⟩ := ix_some hx
    obtain ⟨h3, h4⟩ := ar_in ec h1 (vv := .long u) (by simp [arV, h2])
    refine ⟨T, locs, cells, slots, I, fun target r => ?_⟩
    refine I.1.laload ok.2.2.1 (j := j) (v := .long u) A.1 (State.isArrayOf_alike ok.2.2.2.1.alike A.2.1) A.2.2 h3 h4 (g := mkF m pc (cL α b L) (.int j :: .ref (b + 1 + q) :: cV α b st)) rfl rfl (hb ok.2.2.2.2.2.1 d) _ r |> fun t => ?_
    rw [show cV α b (.int j :: .ref (q + 2) :: st) = .int j :: .ref (b + (q + 1)) :: cV α b st from rfl, show b + (q + 1) = b + 1 + q by omega]
    exact t) g
theorem go_baload {q : Nat} {j : Int32} {nm ds : String} {ty : FieldType} {cap : Nat} (ha : (cA P.2)[q]? = some (nm, ds, ty, cap)) (hty : ty = .boolean ∨ ty = .byte) (hq : Nat.blt q k = true) (hx : ix (gA s q) j = some v) (d : decode (mB M) pc = .ok (.baload, 1)) (g : Go P M (pc + 1) L (.int v :: st) (none, [(k, s)]) out) : Go P M pc L (.int j :: .ref (q + 2) :: st) (none, [(k, s)]) out :=
  go_ch (fun l Z a0 p e R s1 m args below meth c α b n0 h0 uC uS ok hl T locs cells slots I => by
    obtain ⟨cl, A, ec⟩ := (rep_one I.2.1).2.2.2 q _ ha (by simpa [Nat.blt_eq] using hq)
    obtain ⟨h1, h2⟩ := ix_some hx
    refine ⟨T, locs, cells, slots, I, fun target r => ?_⟩
    rw [show cV α b (.int j :: .ref (q + 2) :: st) = .int j :: .ref (b + (q + 1)) :: cV α b st from rfl, show b + (q + 1) = b + 1 + q by omega]
    rcases hty with rfl | rfl
    · obtain ⟨h3, h4⟩ := ar_in ec h1 (vv := .int v) (by simp [arV, h2])
      exact I.1.baloadBooleans ok.2.2.1 (j := j) (v := .int v) A.1 (State.isArrayOf_alike ok.2.2.2.1.alike A.2.1) A.2.2 h3 h4 (g := mkF m pc (cL α b L) (.int j :: .ref (b + 1 + q) :: cV α b st)) rfl rfl (hb ok.2.2.2.2.2.1 d) _ r
    · obtain ⟨h3, h4⟩ := ar_in ec h1 (vv := .int v) (by simp [arV, h2])
      exact I.1.baloadBytes ok.2.2.1 (j := j) (v := .int v) A.1 (State.isArrayOf_alike ok.2.2.2.1.alike A.2.1) A.2.2 h3 h4 (g := mkF m pc (cL α b L) (.int j :: .ref (b + 1 + q) :: cV α b st)) rfl rfl (hb ok.2.2.2.2.2.1 d) _ r) g
theorem go_alen {q : Nat} {nm ds : String} {ty : FieldType} {cap : Nat} (ha : (cA P.2)[q]? = some (nm, ds, ty, cap)) (hty : ty ≠ .long) (hq : Nat.blt q k = true) (d : decode (mB M) pc = .ok (.arraylength, 1)) (g : Go P M (pc + 1) L (.int (gA s q).length.toInt32 :: st) (none, [(k, s)]) out) : Go P M pc L (.ref (q + 2) :: st) (none, [(k, s)]) out :=
  go_ch (fun l Z a0 p e R s1 m args below meth c α b n0 h0 uC uS ok hl T locs cells slots I => by
    obtain ⟨cl, A, ec⟩ := (rep_one I.2.1).2.2.2 q _ ha (by simpa [Nat.blt_eq] using hq)
    refine ⟨T, locs, cells, slots, I, fun target r => ?_⟩
    have e1 : cl.slots.size = (gA s q).length := by rw [ec]; cases ty <;> simp [arV] at hty ⊢
    rw [show cV α b (.ref (q + 2) :: st) = .ref (b + (q + 1)) :: cV α b st from rfl, show b + (q + 1) = b + 1 + q by omega]
    refine I.1.arraylength ok.2.2.1 (cell := cl) A.1 (State.isArrayOf_alike ok.2.2.2.1.alike A.2.1) (g := mkF m pc (cL α b L) (.ref (b + 1 + q) :: cV α b st)) rfl rfl (hb ok.2.2.2.2.2.1 d) _ ?_
    rw [e1]; exact r) g
theorem go_sload {l0 : List Int32} {os : List (Nat × S)} {j : Int32} (hx : ix l0 j = some v) (d : decode (mB M) pc = .ok (.iaload, 1)) (g : Go P M (pc + 1) L (.int v :: st) (some l0, os) out) : Go P M pc L (.int j :: .ref 0 :: st) (some l0, os) out :=
  go_ch (fun l Z a0 p e R s1 m args below meth c α b n0 h0 uC uS ok hl T locs cells slots I => by
    obtain ⟨cl, A, ec⟩ := (I.2.1.1 l0 rfl).1
    obtain ⟨h1, h2⟩ := ix_some hx
    obtain ⟨h3, h4⟩ := ar_in ec h1 (vv := .int v) (by simp [h2])
    exact ⟨T, locs, cells, slots, I, fun target r => I.1.iaload ok.2.2.1 (j := j) (v := .int v) A.1 (State.isArrayOf_alike ok.2.2.2.1.alike A.2.1) A.2.2 h3 h4 (g := mkF m pc (cL α b L) (cV α b (.int j :: .ref 0 :: st))) rfl rfl (hb ok.2.2.2.2.2.1 d) _ r⟩) g
theorem go_slen {l0 : List Int32} {os : List (Nat × S)} (d : decode (mB M) pc = .ok (.arraylength, 1)) (g : Go P M (pc + 1) L (.int l0.length.toInt32 :: st) (some l0, os) out) : Go P M pc L (.ref 0 :: st) (some l0, os) out :=
  go_ch (fun l Z a0 p e R s1 m args below meth c α b n0 h0 uC uS ok hl T locs cells slots I => by
    obtain ⟨cl, A, ec⟩ := (I.2.1.1 l0 rfl).1
    refine ⟨T, locs, cells, slots, I, fun target r => ?_⟩
    have e1 : cl.slots.size = l0.length := by rw [ec]; simp
    refine I.1.arraylength ok.2.2.1 (cell := cl) A.1 (State.isArrayOf_alike ok.2.2.2.1.alike A.2.1) (g := mkF m pc (cL α b L) (cV α b (.ref 0 :: st))) rfl rfl (hb ok.2.2.2.2.2.1 d) _ ?_
    rw [e1]; exact r) g
/-- a component of an array of the object takes its value -/
theorem rep_store {Z : State} {ci : CI} {h h' : Heap} {b : Nat} {s s' : S} {k q i : Nat} {nm ds : String} {ty : FieldType} {cap : Nat} {vv : Value} (F : Rep1 Z ci h b (k, s)) (hf : (cA ci)[q]? = some (nm, ds, ty, cap)) (hq : q < k)
    (Wt : Wr h h' (b + 1 + q) i vv) (hi : i < (arV ty s q).length) (hv : arV ty s' q = (arV ty s q).set i vv) (ho : ∀ q' x, (cA ci)[q']? = some x → q' ≠ q → arV x.2.2.1 s' q' = arV x.2.2.1 s q') (ha : gI s' = gI s) (hbb : gL s' = gL s) : Rep1 Z ci h' b (k, s') := by
  obtain ⟨f1, f2, f3, f4⟩ := F
  refine ⟨f1.wr Wt, fun f x hx => ?_, fun q' x hx => (f3 q' x hx).other Wt (Or.inl (nq (by omega))), fun q' x hx hq' => ?_⟩
  · have e : scV x.2.2 s' f = scV x.2.2 s f := by unfold scV; split <;> simp [ha, hbb]
    show Fld Z h' b (cN ci) x.1 x.2.1 (scV x.2.2 s' f)
    rw [e]
    exact (f2 f x hx).other Wt (Or.inl (nq (by omega)))
  · by_cases e : q' = q
    · subst e
      cases hf.symm.trans hx
      obtain ⟨c, A, ec⟩ := f4 q' _ hf hq
      refine ⟨_, A.same Wt, ?_⟩
      show (c.setSlot i vv).slots = (arV ty s' q').toArray
      rw [hv]
      simp only [Cell.setSlot, ec]
      simp
    · obtain ⟨c, A, ec⟩ := f4 q' x hx hq'
      refine ⟨c, A.other Wt (nq (by omega)), ec.trans ?_⟩
      rw [ho q' x hx e]
theorem arV_sA (s : S) (q : Nat) (l : List Int32) (ty : FieldType) (q' : Nat) (h : q' ≠ q) : arV ty (sA s q l) q' = arV ty s q' := by
  unfold arV; split <;> simp [gA_sA, gB_sA, h]
theorem arV_sB (s : S) (q : Nat) (l : List Int64) (ty : FieldType) (q' : Nat) (h : q' ≠ q) : arV ty (sB s q l) q' = arV ty s q' := by
  unfold arV; split <;> simp [gA_sB, gB_sB, h]
theorem in_of {c : Cell} {vs : List Value} {j : Int32} (e : c.slots = vs.toArray) (h1 : ¬ j < 0) (h2 : j.toNatClampNeg < vs.length) : ¬ (j < 0 ∨ c.slots.size ≤ j.toNatClampNeg) := fun q => by
  rcases q with q | q
  · exact h1 q
  · rw [e] at q; simp at q; omega
theorem go_iastore {q : Nat} {j : Int32} {nm ds : String} {cap : Nat} {l' : List Int32} (ha : (cA P.2)[q]? = some (nm, ds, .int, cap)) (hq : Nat.blt q k = true) (hp : 0 < mN M) (hx : Jvm.AM.st (gA s q) j x = some l') (d : decode (mB M) pc = .ok (.iastore, 1)) (g : Go P M (pc + 1) L st (none, [(k, sA s q l')]) out) : Go P M pc L (.int x :: .int j :: .ref (q + 2) :: st) (none, [(k, s)]) out :=
  go_ch (fun l Z a0 p e R s1 m args below meth c α b n0 h0 uC uS ok hl T locs cells slots I => by
    have hq' : q < k := by simpa [Nat.blt_eq] using hq
    have hqK := get_lt ha
    obtain ⟨X, Rp, Fm, Nl, hs, u1, u2, c1, c2, hN⟩ := I
    obtain ⟨cl, A, ec⟩ := (rep_one Rp).2.2.2 q _ ha hq'
    obtain ⟨h1, h2, rfl⟩ := st_some hx
    have hin := in_of ec h1 (by simpa [arV] using h2)
    obtain ⟨T', h', X', e', Wt, stp⟩ := stI X ok.2.2.1 ok.2.2.2.1 rfl A (x := x) hin (g := mkF m pc (cL α b L) (.int x :: .int j :: .ref (b + 1 + q) :: cV α b st)) rfl rfl (hb ok.2.2.2.2.2.1 d)
    refine ⟨T', _, cells, slots, ⟨X', rep_mk (by rw [e']; exact rep_store (rep_one Rp) ha hq' Wt (by simpa [arV] using h2) (by simp [arV, gA_sA, List.map_set]) (fun q' y _ h => arV_sA s q _ _ q' h) rfl rfl), by rw [e']; exact Fm.wr Wt (by omega) (by have := Nat.mul_le_mul_left (cK P.2 + 1) hp; simp only [cK] at *; omega), Fr.snoc X' Nl (by have := ok.2.2.2.2.2.2.2.2.2.2.1; omega), by rw [e', Wt.size]; exact hs, u1, u2, c1, c2, hN⟩, fun target r => ?_⟩
    rw [show cV α b (.int x :: .int j :: .ref (q + 2) :: st) = .int x :: .int j :: .ref (b + (q + 1)) :: cV α b st from rfl, show b + (q + 1) = b + 1 + q by omega]
    exact stp target r) g
theorem go_lastore {q : Nat} {j : Int32} {nm ds : String} {cap : Nat} {l' : List Int64} (ha : (cA P.2)[q]? = some (nm, ds, .long, cap)) (hq : Nat.blt q k = true) (hp : 0 < mN M) (hx : Jvm.AM.st (gB s q) j u = some l') (d : decode (mB M) pc = .ok (.lastore, 1)) (g : Go P M (pc + 1) L st (none, [(k, sB s q l')]) out) : Go P M pc L (.long u :: .int j :: .ref (q + 2) :: st) (none, [(k, s)]) out :=
  go_ch (fun l Z a0 p e R s1 m args below meth c α b n0 h0 uC uS ok hl T locs cells slots I => by
    have hq' : q < k := by simpa [Nat.blt_eq] using hq
    have hqK := get_lt ha
    obtain ⟨X, Rp, Fm, Nl, hs, u1, u2, c1, c2, hN⟩ := I
    obtain ⟨cl, A, ec⟩ := (rep_one Rp).2.2.2 q _ ha hq'
    obtain ⟨h1, h2, rfl⟩ := st_some hx
    have hin := in_of ec h1 (by simpa [arV] using h2)
    obtain ⟨T', h', X', e', Wt, stp⟩ := stJ X ok.2.2.1 ok.2.2.2.1 rfl A (x := u) hin (g := mkF m pc (cL α b L) (.long u :: .int j :: .ref (b + 1 + q) :: cV α b st)) rfl rfl (hb ok.2.2.2.2.2.1 d)
    refine ⟨T', _, cells, slots, ⟨X', rep_mk (by rw [e']; exact rep_store (rep_one Rp) ha hq' Wt (by simpa [arV] using h2) (by simp [arV, gB_sB, List.map_set]) (fun q' y _ h => arV_sB s q _ _ q' h) rfl rfl), by rw [e']; exact Fm.wr Wt (by omega) (by have := Nat.mul_le_mul_left (cK P.2 + 1) hp; simp only [cK] at *; omega), Fr.snoc X' Nl (by have := ok.2.2.2.2.2.2.2.2.2.2.1; omega), by rw [e', Wt.size]; exact hs, u1, u2, c1, c2, hN⟩, fun target r => ?_⟩
    rw [show cV α b (.long u :: .int j :: .ref (q + 2) :: st) = .long u :: .int j :: .ref (b + (q + 1)) :: cV α b st from rfl, show b + (q + 1) = b + 1 + q by omega]
    exact stp target r) g
theorem go_bastore {q : Nat} {j : Int32} {nm ds : String} {ty : FieldType} {cap : Nat} {l' : List Int32} (ha : (cA P.2)[q]? = some (nm, ds, ty, cap)) (hty : ty = .boolean ∨ ty = .byte) (hq : Nat.blt q k = true) (hp : 0 < mN M) (hv : v = nar ty x) (hx : Jvm.AM.st (gA s q) j v = some l') (d : decode (mB M) pc = .ok (.bastore, 1)) (g : Go P M (pc + 1) L st (none, [(k, sA s q l')]) out) : Go P M pc L (.int x :: .int j :: .ref (q + 2) :: st) (none, [(k, s)]) out :=
  go_ch (fun l Z a0 p e R s1 m args below meth c α b n0 h0 uC uS ok hl T locs cells slots I => by
    have hq' : q < k := by simpa [Nat.blt_eq] using hq
    have hqK := get_lt ha
    obtain ⟨X, Rp, Fm, Nl, hs, u1, u2, c1, c2, hN⟩ := I
    obtain ⟨cl, A, ec⟩ := (rep_one Rp).2.2.2 q _ ha hq'
    obtain ⟨h1, h2, rfl⟩ := st_some hx
    subst hv
    have hlen : j.toNatClampNeg < (arV ty s q).length := by rcases hty with rfl | rfl <;> simpa [arV] using h2
    have hset : arV ty (sA s q ((gA s q).set j.toNatClampNeg (nar ty x))) q = (arV ty s q).set j.toNatClampNeg (.int (nar ty x)) := by rcases hty with rfl | rfl <;> simp [arV, gA_sA, List.map_set]
    have hin := in_of ec h1 hlen
    obtain ⟨T', h', X', e', Wt, stp⟩ : ∃ T' h', Stand p l e R s1 m args below meth c T' (locs ++ [⟨b + 1 + q, j.toNatClampNeg⟩]) cells slots ∧ T'.heap = h' ∧ Wr T.heap h' (b + 1 + q) j.toNatClampNeg (.int (nar ty x)) ∧ ∀ target, Steps p.tables e below (T'.setTop (mkF m (pc + 1) (cL α b L) (cV α b st))) target → Steps p.tables e below (T.setTop (mkF m pc (cL α b L) (.int x :: .int j :: .ref (b + 1 + q) :: cV α b st))) target := by
      rcases hty with rfl | rfl
      · exact stZ X ok.2.2.1 ok.2.2.2.1 rfl A (x := x) hin (g := mkF m pc (cL α b L) (.int x :: .int j :: .ref (b + 1 + q) :: cV α b st)) rfl rfl (hb ok.2.2.2.2.2.1 d)
      · exact stB X ok.2.2.1 ok.2.2.2.1 rfl A (x := x) hin (g := mkF m pc (cL α b L) (.int x :: .int j :: .ref (b + 1 + q) :: cV α b st)) rfl rfl (hb ok.2.2.2.2.2.1 d)
    refine ⟨T', _, cells, slots, ⟨X', rep_mk (by rw [e']; exact rep_store (rep_one Rp) ha hq' Wt hlen hset (fun q' y _ h => arV_sA s q _ _ q' h) rfl rfl), by rw [e']; exact Fm.wr Wt (by omega) (by have := Nat.mul_le_mul_left (cK P.2 + 1) hp; simp only [cK] at *; omega), Fr.snoc X' Nl (by have := ok.2.2.2.2.2.2.2.2.2.2.1; omega), by rw [e', Wt.size]; exact hs, u1, u2, c1, c2, hN⟩, fun target r => ?_⟩
    rw [show cV α b (.int x :: .int j :: .ref (q + 2) :: st) = .int x :: .int j :: .ref (b + (q + 1)) :: cV α b st from rfl, show b + (q + 1) = b + 1 + q by omega]
    exact stp target r) g
/-! ## 5. A method as a whole; calls -/
def Call (P : PI) (M : Meth) (as : List Value) (w : W) (out : Option Value × W) : Prop :=
  ∀ (l : Launch) (Z : State) (a0 : Array Value) (ws : List Jvm.Cond) (α b n0 : Nat) (h0 : Heap), (∀ d ∈ P.1, d.before a0 Z = true) → Facts Z a0 P.2 → n0 ≤ b → RepW Z P.2 α b w h0 → w.2.length ≤ mN M → (mTop M = true → h0.size = b + usedC w ∧ usedC w = mUC M ∧ usedS P.2 w = mUS M) →
    MetFree l (mY M) (head1 (Jvm.Cond.code (mY M) (mB M) (mL M) (mT M) :: ws) (mR M)) (fun a U => a = (cV α b as).toArray ∧ Z.Warmed39 U.vm ∧ U.heap = h0) (fun _ _ _ _ _ => True)
      (fun _ U o U' => ∃ v L, o = .returned v ∧ (v = out.1.map (con α b) ∧ Fr n0 L ∧ RepW Z P.2 α b out.2 U'.heap ∧ Frm b (b + (cK P.2 + 1) * mN M) h0 U'.heap ∧ ∃ k, U'.heap.size = h0.size + k ∧ k + usedC w = usedC out.2) ∧ FrameEnd U o U' L (mR M).cells (mR M).slots)
theorem call_of_go {as : List Value} (hpl : plainName (mY M).cls = true) (hlen : (entryL as (mL M)).length = mL M) (hret : mT M = none → out.1 = none) (g : Go P M 0 (entryL as (mL M)) [] w out) : Call P M as w out := by
  intro l Z a0 ws α b n0 h0 hw fa hn0 Rp hN htop
  refine MetFree.of_bodySF (plainFor_of_name hpl) hisR ?_
  intro p e s m args below meth c s₁ Bd hml0 hP hK
  obtain ⟨rfl, hZ, hh⟩ := hP
  have X0 : Stand p l e (mR M) s m (cV α b as).toArray below meth c s₁ [] 0 0 := Stand.of_body Bd
  have e0 : s₁.heap = h0 := by rw [← hh, Bd.state]; rfl
  obtain ⟨T', L', c', n', I', fin⟩ := g hlen l Z a0 p e (mR M) s m (cV α b as).toArray below meth c α b n0 h0 (usedC w) (usedS P.2 w) ⟨hw, fa, Bd.exec, hZ, findClass_of_methodNamed Bd.named, Bd.bytes, hml0, Bd.returns, (name_of_methodNamed Bd.named Bd.method).1, rfl, hn0, htop, by rw [hh]⟩ s₁ [] 0 0 ⟨X0, by rw [e0]; exact Rp, by rw [e0]; exact Frm.refl _ _ _, Fr.nil _, by rw [e0]; rfl, by simp, by simp, Nat.zero_le _, Nat.zero_le _, hN⟩
  obtain ⟨X', Rp', Fm', Nl', hs', u1', u2', c1', c2', hN'⟩ := I'
  obtain ⟨fs, hr, hrun, hended, hW, hsame⟩ := X'.leave (v := out.1.map (con α b)) (fun h => by rw [Bd.returns] at h; rw [hret h]; rfl)
  refine ⟨_, _, ?_, hrun, hended, _, _, rfl, ⟨rfl, Nl', Rp', Fm', c', hs', u1'⟩, ⟨_, rfl⟩, hW, hsame.mono c1' c2'⟩
  have q := fin fs hr
  rw [← entry_locals] at q
  exact q
def nr : Value → Bool
  | .ref _ => false
  | _ => true
theorem con_nr {α b : Nat} {v : Value} (h : nr v = true) : con α b v = v := by
  cases v <;> first | rfl | cases h
theorem cV_nr {α b : Nat} {l : List Value} (h : l.all nr = true) : cV α b l = l := by
  have : ∀ x ∈ l, con α b x = x := fun x hx => con_nr (List.all_eq_true.mp h x hx)
  unfold cV
  exact (List.map_congr_left this).trans (List.map_id _)
theorem rep_obj {Z : State} {ci : CI} {α b : Nat} {h : Heap} {i : Nat} (F : RepW Z ci α b w h) (ho : w.2[i]? = some o) : RepW Z ci 0 (b + (cK ci + 1) * i) (none, [o]) h := rep_mk (F.2 i o ho)
theorem rep_back {Z : State} {ci : CI} {α α' b : Nat} {h h' : Heap} {i : Nat} (F : RepW Z ci α b w h) (ho : w.2[i]? = some o) (G : RepW Z ci α' (b + (cK ci + 1) * i) (none, [o']) h') (Fm : Frm (b + (cK ci + 1) * i) (b + (cK ci + 1) * i + (cK ci + 1) * 1) h h') : RepW Z ci α b (w.1, w.2.set i o') h' := by
  refine ⟨fun l hl => ⟨((F.1 l hl).1).frm fun c q => Fm _ _ q (Or.inl ?_), (F.1 l hl).2⟩, fun j oj hj => ?_⟩
  · have := (F.1 l hl).2; exact Nat.lt_of_lt_of_le this (Nat.le_add_right _ _)
  · by_cases e : j = i
    · subst e
      rw [show (w.1, w.2.set j o').2 = w.2.set j o' from rfl, List.getElem?_set_self (get_lt ho)] at hj
      cases hj
      exact rep_one G
    · rw [show (w.1, w.2.set i o').2 = w.2.set i o' from rfl, List.getElem?_set_ne (Ne.symm e)] at hj
      refine (F.2 j oj hj).frm fun x c q1 q2 q3 => Fm _ _ q3 ?_
      rcases Nat.lt_or_gt_of_ne e with q | q
      · have := Nat.mul_le_mul_left (cK ci + 1) q
        rw [Nat.mul_succ] at this; omega
      · have := Nat.mul_le_mul_left (cK ci + 1) q
        rw [Nat.mul_succ] at this; omega
theorem sum_set {A : Type} (f : A → Nat) {a a' : A} : ∀ {l : List A} {i : Nat}, l[i]? = some a → ((l.set i a').map f).sum + f a = (l.map f).sum + f a'
  | [], i, h => by simp at h
  | b :: r, 0, h => by simp at h; subst h; simp; omega
  | b :: r, i + 1, h => by
    simp only [List.getElem?_cons_succ] at h
    have := sum_set f (a' := a') h
    simp only [List.set_cons_succ, List.map_cons, List.sum_cons]; omega
def CQ (ci : CI) (Z : State) (α b n0 : Nat) (h0 : Heap) (N : Nat) (w : W) (out : Option Value × W) (v : Option Value) (hp : Heap) (L : List Loc) : Prop := v = out.1.map (con α b) ∧ Fr n0 L ∧ RepW Z ci α b out.2 hp ∧ Frm b (b + (cK ci + 1) * N) h0 hp ∧ ∃ k, hp.size = h0.size + k ∧ k + usedC w = usedC out.2
/-- what a callee that makes nothing must fit into -/
def Small (M M' : Meth) (rest : List Value) : Prop := (mR M').cells = 0 ∧ (mR M').slots = 0 ∧ mTop M' = false ∧ Nat.ble ((mR M').frames + 1) (mR M).frames = true ∧ Nat.ble ((rest.map fun v => v.category).sum + (mL M' + 11) + (mR M').locals) (mR M).locals = true
theorem ret_st {α b b' : Nat} {r : Option Value} {rest : List Value} (hr : r.all nr = true) : (r.map (con 0 b')).toList ++ cV α b rest = cV α b (r.toList ++ rest) := by
  cases r with
  | none => rfl
  | some v => simp only [Option.map_some, Option.toList_some, cV, List.cons_append, List.nil_append, List.map_cons]; rw [con_nr (show nr v = true from hr), con_nr (show nr v = true from hr)]
theorem inv_obj {l : Launch} {Z : State} {p : Program} {e : Env} {R : Room} {s : State} {m : MethodId} {args : Array Value} {below : List Frame} {meth : Method} {c : Code} {α b n0 : Nat} {h0 : Heap} {uC uS : Nat} {T T2 : State} {locs L2 : List Loc} {cells slots rc rs i : Nat}
    (I : Inv P M l Z p e R s m args below meth c α b n0 h0 uC uS w T locs cells slots) (ho : w.2[i]? = some o) (X2 : Stand p l e R s m args below meth c T2 (locs ++ L2) (cells + rc) (slots + rs))
    (N2 : Fr n0 L2) (R2 : RepW Z P.2 0 (b + (cK P.2 + 1) * i) (none, [o']) T2.heap) (F2 : Frm (b + (cK P.2 + 1) * i) (b + (cK P.2 + 1) * i + (cK P.2 + 1) * 1) T.heap T2.heap) (k2 : ∃ k, T2.heap.size = T.heap.size + k ∧ k + usedC (none, [o]) = usedC (none, [o']))
    (hC : o'.1 = o.1 + rc) (hS : usedS P.2 (none, [o']) = usedS P.2 (none, [o]) + rs) (q1 : cells + rc ≤ R.cells) (q2 : slots + rs ≤ R.slots) : Inv P M l Z p e R s m args below meth c α b n0 h0 uC uS (w.1, w.2.set i o') T2 (locs ++ L2) (cells + rc) (slots + rs) := by
  obtain ⟨X, Rp, Fm, Nl, hs, u1, u2, c1, c2, hN⟩ := I
  obtain ⟨k, k1, k3⟩ := k2
  have hi := get_lt ho
  have a1 := sum_set (fun o : Nat × S => 1 + o.1) (a' := o') ho
  have a2 := sum_set (fun o : Nat × S => cF P.2 + (((cA P.2).take o.1).map fun x => x.2.2.2).sum) (a' := o') ho
  have hle : (cK P.2 + 1) * (i + 1) ≤ (cK P.2 + 1) * mN M := Nat.mul_le_mul_left _ (by omega)
  rw [Nat.mul_succ] at hle
  refine ⟨X2, rep_back Rp ho R2 F2, Fm.trans (F2.wide (Nat.le_add_right _ _) (by omega)), Nl.app N2, ?_, ?_, ?_, q1, q2, by simpa using hN⟩
  · simp only [usedC, List.map_cons, List.map_nil, List.sum_cons, List.sum_nil] at k3; omega
  · simp only [usedC] at u1 ⊢; omega
  · simp only [usedS, List.map_cons, List.map_nil, List.sum_cons, List.sum_nil] at u2 hS ⊢; omega
def LinkV (P : PI) (own : String) (idx : Nat) (M' : Meth) : Prop := Jvm.Cond.methodLink own idx (mY M') ∈ P.1 ∧ Jvm.Cond.declares (mY M') ∈ P.1 ∧ Jvm.Cond.selects (cN P.2) (mY M') (mY M') ∈ P.1 ∧ Jvm.Cond.instanceMethod (mY M') ∈ P.1 ∧ Jvm.Cond.code (mY M') (mB M') (mL M') (mT M') ∈ P.1 ∧ (mY M').cls = cN P.2 ∧ mN M' = 1
def LinkP (P : PI) (own : String) (idx : Nat) (M' : Meth) : Prop := Jvm.Cond.methodLink own idx (mY M') ∈ P.1 ∧ Jvm.Cond.instanceMethod (mY M') ∈ P.1 ∧ Jvm.Cond.privateMethod (mY M') ∈ P.1 ∧ Jvm.Cond.code (mY M') (mB M') (mL M') (mT M') ∈ P.1 ∧ (mY M').cls = cN P.2 ∧ mN M' = 1
def LinkS (P : PI) (own : String) (idx : Nat) (M' : Meth) : Prop := Jvm.Cond.methodLink own idx (mY M') ∈ P.1 ∧ Jvm.Cond.static (mY M') ∈ P.1 ∧ Jvm.Cond.initialized (mY M').cls ∈ P.1 ∧ Jvm.Cond.code (mY M') (mB M') (mL M') (mT M') ∈ P.1 ∧ ((mY M').cls ≠ "java/lang/invoke/MethodHandle" ∧ (mY M').cls ≠ "java/lang/invoke/VarHandle")
def LinkI (P : PI) (own : String) (idx : Nat) (M' : Meth) : Prop := Jvm.Cond.methodLink own idx (mY M') ∈ P.1 ∧ Jvm.Cond.instanceMethod (mY M') ∈ P.1 ∧ Jvm.Cond.code (mY M') (mB M') (mL M') (mT M') ∈ P.1 ∧ (mY M').cls = cN P.2 ∧ mN M' = 1 ∧ mT M' = none ∧ (mY M').name = "<init>"
variable {M' : Meth} {i idx id : Nat} {as rest : List Value} {rv : Option Value} {ps : List FieldType} {rt : Option FieldType}
theorem cV_call {α b : Nat} {jd : Nat} (hnr : as.all nr = true) (hst : st = as.reverse ++ .ref (jd + 1) :: rest) : cV α b st = as.reverse ++ .ref (b + jd) :: cV α b rest := by
  subst hst
  have h1 : cV α b as.reverse = as.reverse := cV_nr (by rw [List.all_reverse]; exact hnr)
  unfold cV at h1 ⊢
  rw [List.map_append, h1]; rfl
theorem go_virt (lk : LinkV P (mY M).cls idx M') (pd : parseMethodDescriptor (mY M').desc = some ⟨ps, rt⟩) (hn : as.length = ps.length) (hid : id = (cK P.2 + 1) * i + 1) (hst : st = as.reverse ++ .ref id :: rest) (hnr : as.all nr = true) (hrr : rv.all nr = true) (ho : w.2[i]? = some o) (hw' : w' = (w.1, w.2.set i o')) (hC : o'.1 = o.1) (sm : Small M M' rest)
    (d : decode (mB M) pc = .ok (.invokevirtual idx, 3)) (cl : Call P M' (.ref 1 :: as) (none, [o]) (rv, (none, [o']))) (g : Go P M (pc + 3) L (rv.toList ++ rest) w' out) : Go P M pc L st w out :=
  go_ch (fun l Z a0 p e R s1 m args below meth c α b n0 h0 uC uS ok hl T locs cells slots I => by
    subst hw' hid
    obtain ⟨hw, fa, hx, hZ, hown, hc, hml, hret, hnm, hR, hn0, htop, hsz⟩ := ok
    obtain ⟨k1, k2, k3, k4, k5, k6, k7⟩ := lk
    obtain ⟨z1, z2, z3, z4, z5⟩ := sm
    have C := cl l Z a0 [] 0 (b + (cK P.2 + 1) * i) n0 T.heap hw fa (Nat.le_trans hn0 (Nat.le_add_right _ _)) (rep_obj I.2.1 ho) (by rw [k7]; exact Nat.le_refl _) (fun q => by rw [z3] at q; cases q)
    have Bk := backOf (Q := CQ P.2 Z 0 (b + (cK P.2 + 1) * i) n0 T.heap (mN M') (none, [o]) (rv, (none, [o']))) (R := R) (p := p) (e := e) (below := below) (s := s1) (args := args) (len := 3) (W := (rest.map fun v => v.category).sum) C hZ (hw _ k5) (by rw [k6]; exact fa.2.1) (by rw [hR]; exact Nat.le_of_ble_eq_true z4) (by rw [hR]; exact Nat.le_of_ble_eq_true z5)
    have E := (I.2.1.2 i o ho).1
    obtain ⟨cB, kB, q1, q2, q3⟩ := isOf (T := T) hZ rfl E
    obtain ⟨v, vm1, ⟨T2, Lx, kx, nx⟩, -, X2, ⟨L2, hQ, l2, y2, n2⟩, stp⟩ := I.1.virtualBack hx (y := mY M') (z := mY M') hown (mvT hZ (hw _ k1)) (mvT hZ (hw _ k2)) (notFace_of_selects (args := #[]) (mvT hZ (hw _ k3))) (mvT hZ (hw _ k3)) (mvT hZ (hw _ k4)) (by rw [k6]; exact fa.2.2.2.2.2.2) Bk q1 q3 (g := mkF m pc (cL α b L) (cV α b st)) rfl (by show (cL α b L).size = c.maxLocals; rw [cL_size, hl, hml]) (Steps.refl _) (argsL := as) (rest := cV α b rest) (lenOf pd hn) (cV_call hnr hst)
      (by show 2 * 0 + _ ≤ _; rw [cV_sum]; exact Nat.le_of_eq (Nat.zero_add _)) (hb hc d) (fun _ _ => ⟨by rw [show (cV 0 (b + (cK P.2 + 1) * i) (.ref 1 :: as)) = .ref (b + (cK P.2 + 1) * i) :: cV 0 (b + (cK P.2 + 1) * i) as from rfl, cV_nr hnr], rfl, by rw [z1]; exact I.2.2.2.2.2.2.2.1, by rw [z2]; exact I.2.2.2.2.2.2.2.2.1⟩)
    dsimp only [Pt.U, Pt.locs, Pt.cells, Pt.slots] at X2 l2 y2 n2 stp hQ
    subst l2 y2 n2
    obtain ⟨rfl, N2, R2, F2, k8⟩ := hQ
    rw [k7] at F2
    refine ⟨T2, _, _, _, inv_obj I ho X2 N2 R2 F2 k8 (by rw [z1]; exact hC) (by rw [z2]; simp [usedS, hC]) (by rw [z1]; exact I.2.2.2.2.2.2.2.1) (by rw [z2]; exact I.2.2.2.2.2.2.2.2.1), fun target r => stp.trans ?_⟩
    rw [← ret_st (b' := b + (cK P.2 + 1) * i) hrr] at r
    exact r) g
theorem go_priv (lk : LinkP P (mY M).cls idx M') (pd : parseMethodDescriptor (mY M').desc = some ⟨ps, rt⟩) (hn : as.length = ps.length) (hid : id = (cK P.2 + 1) * i + 1) (hst : st = as.reverse ++ .ref id :: rest) (hnr : as.all nr = true) (hrr : rv.all nr = true) (ho : w.2[i]? = some o) (hw' : w' = (w.1, w.2.set i o')) (hC : o'.1 = o.1) (sm : Small M M' rest)
    (d : decode (mB M) pc = .ok (.invokevirtual idx, 3)) (cl : Call P M' (.ref 1 :: as) (none, [o]) (rv, (none, [o']))) (g : Go P M (pc + 3) L (rv.toList ++ rest) w' out) : Go P M pc L st w out :=
  go_ch (fun l Z a0 p e R s1 m args below meth c α b n0 h0 uC uS ok hl T locs cells slots I => by
    subst hw' hid
    obtain ⟨hw, fa, hx, hZ, hown, hc, hml, hret, hnm, hR, hn0, htop, hsz⟩ := ok
    obtain ⟨k1, k4, k3, k5, k6, k7⟩ := lk
    obtain ⟨z1, z2, z3, z4, z5⟩ := sm
    have C := cl l Z a0 [] 0 (b + (cK P.2 + 1) * i) n0 T.heap hw fa (Nat.le_trans hn0 (Nat.le_add_right _ _)) (rep_obj I.2.1 ho) (by rw [k7]; exact Nat.le_refl _) (fun q => by rw [z3] at q; cases q)
    have Bk := backOf (Q := CQ P.2 Z 0 (b + (cK P.2 + 1) * i) n0 T.heap (mN M') (none, [o]) (rv, (none, [o']))) (R := R) (p := p) (e := e) (below := below) (s := s1) (args := args) (len := 3) (W := (rest.map fun v => v.category).sum) C hZ (hw _ k5) (by rw [k6]; exact fa.2.1) (by rw [hR]; exact Nat.le_of_ble_eq_true z4) (by rw [hR]; exact Nat.le_of_ble_eq_true z5)
    obtain ⟨cell, q1, q2⟩ := (I.2.1.2 i o ho).1.cell
    have hy : (mY M').cls ≠ "java/lang/invoke/MethodHandle" ∧ (mY M').cls ≠ "java/lang/invoke/VarHandle" := by rw [k6]; exact fa.2.2.2.2.2.2
    have hpriv : s1.PrivateAt (mY M') := Cond.privateMethod_at (mvP hZ (hw _ k3) (args := #[]))
    have hin : (Jvm.Cond.instanceMethod (mY M')).before args s1 = true := mvT hZ (hw _ k4)
    obtain ⟨c2, kk, i1, i2, i3, i4, -⟩ := Cond.instantiable_spec fa.1
    obtain ⟨k', j1, j2⟩ := hZ.alike.2.2 _ _ i2
    have hsel : (Jvm.Cond.selects (mY M').cls (mY M') (mY M')).before args s1 = true := selects_self_of_private (c := c2) (k := k') (by rw [k6, hZ.alike.findClass]; exact i1) j1 (by
      have : kk.isInterface = false := by simp only [Bool.or_eq_false_iff] at i4; exact i4.1
      rw [j2]; exact this) hpriv hin hy
    obtain ⟨v, vm1, ⟨T2, Lx, kx, nx⟩, -, X2, ⟨L2, hQ, l2, y2, n2⟩, stp⟩ := I.1.privateBack hx (y := mY M') hown (mvT hZ (hw _ k1)) hin hsel hpriv (mvT hZ (hw _ k5)) hy Bk (g := mkF m pc (cL α b L) (cV α b st)) rfl (by show (cL α b L).size = c.maxLocals; rw [cL_size, hl, hml]) (Steps.refl _) (a := b + (cK P.2 + 1) * i) q1 q2 (argsL := as) (rest := cV α b rest) (lenOf pd hn) (cV_call hnr hst)
      (by show 2 * 0 + _ ≤ _; rw [cV_sum]; exact Nat.le_of_eq (Nat.zero_add _)) (hb hc d) (fun _ _ => ⟨by rw [show (cV 0 (b + (cK P.2 + 1) * i) (.ref 1 :: as)) = .ref (b + (cK P.2 + 1) * i) :: cV 0 (b + (cK P.2 + 1) * i) as from rfl, cV_nr hnr], rfl, by rw [z1]; exact I.2.2.2.2.2.2.2.1, by rw [z2]; exact I.2.2.2.2.2.2.2.2.1⟩)
    dsimp only [Pt.U, Pt.locs, Pt.cells, Pt.slots] at X2 l2 y2 n2 stp hQ
    subst l2 y2 n2
    obtain ⟨rfl, N2, R2, F2, k8⟩ := hQ
    rw [k7] at F2
    refine ⟨T2, _, _, _, inv_obj I ho X2 N2 R2 F2 k8 (by rw [z1]; exact hC) (by rw [z2]; simp [usedS, hC]) (by rw [z1]; exact I.2.2.2.2.2.2.2.1) (by rw [z2]; exact I.2.2.2.2.2.2.2.2.1), fun target r => stp.trans ?_⟩
    rw [← ret_st (b' := b + (cK P.2 + 1) * i) hrr] at r
    exact r) g
theorem go_stat (lk : LinkS P (mY M).cls idx M') (pd : parseMethodDescriptor (mY M').desc = some ⟨ps, rt⟩) (hn : as.length = ps.length) (hst : st = as.reverse ++ rest) (hN' : mN M' ≤ mN M ∧ w.2.length ≤ mN M') (hu : usedC w' = usedC w ∧ usedS P.2 w' = usedS P.2 w ∧ w'.2.length = w.2.length) (sm : Small M M' rest)
    (d : decode (mB M) pc = .ok (.invokestatic idx, 3)) (cl : Call P M' as w (rv, w')) (g : Go P M (pc + 3) L (rv.toList ++ rest) w' out) : Go P M pc L st w out :=
  go_ch (fun l Z a0 p e R s1 m args below meth c α b n0 h0 uC uS ok hl T locs cells slots I => by
    obtain ⟨hw, fa, hx, hZ, hown, hc, hml, hret, hnm, hR, hn0, htop, hsz⟩ := ok
    obtain ⟨k1, k2, k3, k5, k6⟩ := lk
    obtain ⟨z1, z2, z3, z4, z5⟩ := sm
    have C := cl l Z a0 [] α b n0 T.heap hw fa hn0 I.2.1 hN'.2 (fun q => by rw [z3] at q; cases q)
    have Bk := backOf (Q := CQ P.2 Z α b n0 T.heap (mN M') w (rv, w')) (R := R) (p := p) (e := e) (below := below) (s := s1) (args := args) (len := 3) (W := (rest.map fun v => v.category).sum) C hZ (hw _ k5) (hw _ k3) (by rw [hR]; exact Nat.le_of_ble_eq_true z4) (by rw [hR]; exact Nat.le_of_ble_eq_true z5)
    obtain ⟨v, vm1, ⟨T2, Lx, kx, nx⟩, -, X2, ⟨L2, hQ, l2, y2, n2⟩, stp⟩ := Jvm.LawKit.callS I.1 hx (y := mY M') hown (mvT hZ (hw _ k1)) (mvT hZ (hw _ k2)) (mvT hZ (hw _ k3)) (mvT hZ (hw _ k5)) k6 Bk (g := mkF m pc (cL α b L) (cV α b st)) rfl (by show (cL α b L).size = c.maxLocals; rw [cL_size, hl, hml]) (argsL := cV α b as) (rest := cV α b rest) (lenOf pd (by simpa [cV] using hn)) (by subst hst; simp [cV])
      (by show 2 * 0 + _ ≤ _; rw [cV_sum]; exact Nat.le_of_eq (Nat.zero_add _)) (hb hc d) (fun _ _ => ⟨rfl, rfl, by rw [z1]; exact I.2.2.2.2.2.2.2.1, by rw [z2]; exact I.2.2.2.2.2.2.2.2.1⟩)
    dsimp only [Pt.U, Pt.locs, Pt.cells, Pt.slots] at X2 l2 y2 n2 stp hQ
    subst l2 y2 n2
    obtain ⟨rfl, N2, R2, F2, k, k8, k9⟩ := hQ
    obtain ⟨X, Rp, Fm, Nl, hs, u1, u2, c1, c2, hN⟩ := I
    rw [z1, z2] at X2
    refine ⟨T2, _, _, _, ⟨X2, R2, Fm.trans (F2.wide (Nat.le_refl _) (by have := Nat.mul_le_mul_left (cK P.2 + 1) hN'.1; omega)), Nl.app N2, ?_, ?_, ?_, c1, c2, by rw [hu.2.2]; exact hN⟩, fun target r => stp target ?_⟩
    · rw [k8]; have := hu.1; simp only at k9; omega
    · rw [hu.1]; exact u1
    · rw [hu.2.1]; exact u2
    · have e1 : cV α b (rv.toList ++ rest) = (rv.map (con α b)).toList ++ cV α b rest := by cases rv <;> rfl
      rw [e1] at r; exact r) g
/-- a constructor, by its contract -/
theorem go_init {k2 : Nat} {s2 : S} (lk : LinkI P (mY M).cls idx M') (pd : parseMethodDescriptor (mY M').desc = some ⟨ps, rt⟩) (hn : as.length = ps.length) (hid : id = (cK P.2 + 1) * i + 1) (hst : st = as.reverse ++ .ref id :: rest) (hnr : as.all nr = true) (ho : w.2[i]? = some (k, s)) (hw' : w' = (w.1, w.2.set i (k2, s2)))
    (hC : k2 = k + (mR M').cells) (hS : usedS P.2 (none, [(k2, s2)]) = usedS P.2 (none, [(k, s)]) + (mR M').slots) (htM : mTop M = true) (hR1 : Nat.ble (usedC w + (mR M').cells) ((mR M).cells + mUC M) = true) (hR2 : Nat.ble (usedS P.2 w + (mR M').slots) ((mR M).slots + mUS M) = true)
    (hq : usedC w = (cK P.2 + 1) * i + usedC (none, [(k, s)]) ∧ usedC (none, [(k, s)]) = mUC M' ∧ usedS P.2 (none, [(k, s)]) = mUS M') (sm : Nat.ble ((mR M').frames + 1) (mR M).frames = true ∧ Nat.ble ((rest.map fun v => v.category).sum + (mL M' + 11) + (mR M').locals) (mR M).locals = true)
    (d : decode (mB M) pc = .ok (.invokespecial idx, 3)) (cl : Call P M' (.ref 1 :: as) (none, [(k, s)]) (none, (none, [(k2, s2)]))) (g : Go P M (pc + 3) L rest w' out) : Go P M pc L st w out :=
  go_ch (fun l Z a0 p e R s1 m args below meth c α b n0 h0 uC uS ok hl T locs cells slots I => by
    subst hw' hid
    obtain ⟨hw, fa, hx, hZ, hown, hc, hml, hret, hnm, hR, hn0, htop, hsz⟩ := ok
    obtain ⟨k1, k4, k5, k6, k7, k9, k10⟩ := lk
    obtain ⟨z4, z5⟩ := sm
    obtain ⟨t1, t2, t3⟩ := htop htM
    have Ic := I.2.2.2.2.2.1
    have Is := I.2.2.2.2.2.2.1
    have b1 : cells + (mR M').cells ≤ R.cells := by have := Nat.le_of_ble_eq_true hR1; rw [hR]; omega
    have b2 : slots + (mR M').slots ≤ R.slots := by have := Nat.le_of_ble_eq_true hR2; rw [hR]; omega
    have C := cl l Z a0 [] 0 (b + (cK P.2 + 1) * i) n0 T.heap hw fa (Nat.le_trans hn0 (Nat.le_add_right _ _)) (rep_obj I.2.1 ho) (by rw [k7]; exact Nat.le_refl _) (fun _ => ⟨by rw [I.2.2.2.2.1]; have := hq.1; omega, hq.2.1, hq.2.2⟩)
    have Bk := backOf (Q := CQ P.2 Z 0 (b + (cK P.2 + 1) * i) n0 T.heap (mN M') (none, [(k, s)]) (none, (none, [(k2, s2)]))) (R := R) (p := p) (e := e) (below := below) (s := s1) (args := args) (len := 3) (W := (rest.map fun v => v.category).sum) C hZ (hw _ k5) (by rw [k6]; exact fa.2.1) (by rw [hR]; exact Nat.le_of_ble_eq_true z4) (by rw [hR]; exact Nat.le_of_ble_eq_true z5)
    have hy : (mY M').cls ≠ "java/lang/invoke/MethodHandle" ∧ (mY M').cls ≠ "java/lang/invoke/VarHandle" := by rw [k6]; exact fa.2.2.2.2.2.2
    have hcd := hw _ k5
    rw [k9] at hcd
    obtain ⟨v, vm1, ⟨T2, Lx, kx, nx⟩, -, X2, ⟨L2, hQ, l2, y2, n2⟩, stp⟩ := I.1.specialBack hx (y := mY M') k10 hown (mvT hZ (hw _ k1)) (mvT hZ (hw _ k4)) (mvT hZ hcd) hy Bk (g := mkF m pc (cL α b L) (cV α b st)) rfl (by show (cL α b L).size = c.maxLocals; rw [cL_size, hl, hml]) (Steps.refl _) (a := b + (cK P.2 + 1) * i) (argsL := as) (rest := cV α b rest) (lenOf pd hn) (cV_call hnr hst)
      (by show 2 * 0 + _ ≤ _; rw [cV_sum]; exact Nat.le_of_eq (Nat.zero_add _)) (hb hc d) (fun _ _ => ⟨by rw [show (cV 0 (b + (cK P.2 + 1) * i) (.ref 1 :: as)) = .ref (b + (cK P.2 + 1) * i) :: cV 0 (b + (cK P.2 + 1) * i) as from rfl, cV_nr hnr], rfl, b1, b2⟩)
    dsimp only [Pt.U, Pt.locs, Pt.cells, Pt.slots] at X2 l2 y2 n2 stp hQ
    subst l2 y2 n2
    obtain ⟨rfl, N2, R2, F2, k8⟩ := hQ
    rw [k7] at F2
    exact ⟨T2, _, _, _, inv_obj I ho X2 N2 R2 F2 k8 hC hS b1 b2, fun target r => stp.trans r⟩) g
/-- Object's constructor -/
theorem go_objinit {a : Nat} (k1 : Jvm.Cond.methodLink (mY M).cls idx Lib.objectInit ∈ P.1) (k2 : Jvm.Cond.instanceMethod Lib.objectInit ∈ P.1) (k3 : Jvm.Cond.code Lib.objectInit ⟨#[0xb1]⟩ 1 none ∈ P.1) (z4 : Nat.ble 1 (mR M).frames = true) (z5 : Nat.ble ((rest.map fun v => v.category).sum + 12) (mR M).locals = true)
    (d : decode (mB M) pc = .ok (.invokespecial idx, 3)) (g : Go P M (pc + 3) L rest w out) : Go P M pc L (.ref (a + 1) :: rest) w out :=
  go_ch (fun l Z a0 p e R s1 m args below meth c α b n0 h0 uC uS ok hl T locs cells slots I => by
    obtain ⟨hw, fa, hx, hZ, hown, hc, hml, hret, hnm, hR, hn0, htop, hsz⟩ := ok
    obtain ⟨X, Rp, Fm, Nl, hs, u1, u2, c1, c2, hN⟩ := I
    obtain ⟨T', X', e', stp⟩ := initO X hx hZ hown (hw _ k1) (hw _ k2) (hw _ k3) rfl (g := mkF m pc (cL α b L) (cV α b (.ref (a + 1) :: rest))) rfl (by show (cL α b L).size = c.maxLocals; rw [cL_size, hl, hml]) (a := b + a) (rest := cV α b rest) rfl (hb hc d) (by rw [hR]; exact Nat.le_of_ble_eq_true z4) (W := (rest.map fun v => v.category).sum) (by show 2 * 0 + _ ≤ _; rw [cV_sum]; exact Nat.le_of_eq (Nat.zero_add _)) (by rw [hR]; exact Nat.le_of_ble_eq_true z5)
    exact ⟨T', locs, cells, slots, ⟨X', by rw [e']; exact Rp, by rw [e']; exact Fm, Nl, by rw [e']; exact hs, u1, u2, c1, c2, hN⟩, fun target r => stp target r⟩) g
/-- a new object of the class -/
theorem go_new {n : Nat} (k1 : Jvm.Cond.classLink (mY M).cls idx (cN P.2) ∈ P.1) (htM : mTop M = true) (hn : w.2.length = n) (hq : usedC w = (cK P.2 + 1) * n) (hw' : w' = (w.1, w.2 ++ [(0, s0)])) (hN' : Nat.blt n (mN M) = true) (hR1 : Nat.ble (usedC w + 1) ((mR M).cells + mUC M) = true) (hR2 : Nat.ble (usedS P.2 w + cF P.2) ((mR M).slots + mUS M) = true)
    (d : decode (mB M) pc = .ok (.new idx, 3)) (hid : id = (cK P.2 + 1) * n + 1) (g : Go P M (pc + 3) L (.ref id :: st) w' out) : Go P M pc L st w out :=
  go_ch (fun l Z a0 p e R s1 m args below meth c α b n0 h0 uC uS ok hl T locs cells slots I => by
    subst hw' hid
    obtain ⟨hw, fa, hx, hZ, hown, hc, hml, hret, hnm, hR, hn0, htop, hsz⟩ := ok
    obtain ⟨X, Rp, Fm, Nl, hs, u1, u2, c1, c2, hN⟩ := I
    obtain ⟨t1, t2, t3⟩ := htop htM
    have b1 : cells + 1 ≤ R.cells := by have := Nat.le_of_ble_eq_true hR1; rw [hR]; omega
    have b2 : slots + cF P.2 ≤ R.slots := by have := Nat.le_of_ble_eq_true hR2; rw [hR]; omega
    obtain ⟨T2, h2, X2, e2, E2, A2, D2, -, st2⟩ := newO X hx hZ hown (hw _ k1) fa.1 fa.2.1 rfl (g := mkF m pc (cL α b L) (cV α b st)) rfl (hb hc d) b1 b2
    have ha : T.heap.size = b + (cK P.2 + 1) * n := by rw [hs, t1]; omega
    rw [ha] at A2 D2 st2
    have sz2 : T2.heap.size = T.heap.size + 1 := by
      have q1 := X2.heapSize
      have q2 : b + (cK P.2 + 1) * n < h2.size := A2.lt
      rw [e2] at q1 ⊢
      omega
    refine ⟨T2, locs, _, _, ⟨X2, ?_, by rw [e2]; exact Fm.ext E2, Nl, by rw [sz2, hs]; omega, ?_, ?_, b1, b2, ?_⟩, fun target r => st2 target ?_⟩
    · rw [e2]
      refine ⟨fun l1 h1 => (Rp.ext E2).1 l1 h1, fun j oj hj => ?_⟩
      by_cases q : j < w.2.length
      · rw [show (w.1, w.2 ++ [(0, s0)]).2 = w.2 ++ [(0, s0)] from rfl, List.getElem?_append_left q] at hj
        exact (Rp.ext E2).2 j oj hj
      · have hj' := get_lt hj
        simp at hj'
        have ej : j = n := by omega
        subst ej
        rw [show (w.1, w.2 ++ [(0, s0)]).2 = w.2 ++ [(0, s0)] from rfl, List.getElem?_append_right (by omega)] at hj
        rw [hn] at hj; simp at hj; subst hj
        refine ⟨A2, fun f x hx => ?_, fun q x hx => ?_, fun q x _ hq => absurd hq (Nat.not_lt_zero _)⟩
        · have := D2 (fa.2.2.1 f x hx).1 (fa.2.2.1 f x hx).2
          rw [fa.2.2.2.2.2.1 f x hx] at this
          exact this
        · have := D2 (fa.2.2.2.1 q x hx).1 (fa.2.2.2.1 q x hx).2
          rw [if_neg (Nat.not_lt_zero _)]
          exact this
    · simp [usedC] at u1 ⊢; omega
    · simp [usedS] at u2 ⊢; omega
    · simp; have : n < mN M := by simpa [Nat.blt_eq] using hN'
      omega
    · exact r) g
/-- a new array, laid into its field at once -/
theorem rep_new {Z : State} {a0 : Array Value} {ci : CI} {h h1 h2 : Heap} {b : Nat} {s s' : S} {k : Nat} {nm ds : String} {ty : FieldType} {cap : Nat} {cl : Cell} (fa : Facts Z a0 ci) (F : Rep1 Z ci h b (k, s)) (hf : (cA ci)[k]? = some (nm, ds, ty, cap)) (E : Ext h h1) (A : Arr Z h1 (b + 1 + k) cl ty) (ec : cl.slots = (arV ty s' k).toArray)
    (Wt : Wr h1 h2 b (Jvm.RoadKit.slotOf Z (cN ci) nm ds) (.ref (b + 1 + k))) (ho : ∀ q' x, (cA ci)[q']? = some x → q' ≠ k → arV x.2.2.1 s' q' = arV x.2.2.1 s q') (ha : gI s' = gI s) (hbb : gL s' = gL s) : Rep1 Z ci h2 b (k + 1, s') := by
  obtain ⟨f1, f2, f3, f4⟩ := F
  obtain ⟨-, -, g1, g2, g3, -⟩ := fa
  have lt := get_lt hf
  refine ⟨(f1.ext E).wr Wt, fun f x hx => ?_, fun q x hx => ?_, fun q x hx hq => ?_⟩
  · have e : scV x.2.2 s' f = scV x.2.2 s f := by unfold scV; split <;> simp [ha, hbb]
    have lt' := get_lt hx
    show Fld Z h2 b (cN ci) x.1 x.2.1 (scV x.2.2 s' f)
    rw [e]
    refine ((f2 f x hx).ext E).other Wt (Or.inr ?_)
    refine slot_ne (g1 f x hx).1 (g2 k _ hf).1 ?_ (g1 f x hx).2 (g2 k _ hf).2
    intro en
    have n1 : ((cS ci).map (fun x => x.1) ++ (cA ci).map (fun x => x.1))[f]? = some x.1 := by rw [List.getElem?_append_left (by simpa using lt')]; simp [hx]
    have n2 : ((cS ci).map (fun x => x.1) ++ (cA ci).map (fun x => x.1))[(cS ci).length + k]? = some nm := by rw [List.getElem?_append_right (by simp)]; simp [hf]
    rw [en] at n1
    obtain ⟨i1, j1⟩ := List.getElem?_eq_some_iff.mp n1
    obtain ⟨i2, j2⟩ := List.getElem?_eq_some_iff.mp n2
    have := (List.getElem_inj g3).mp (j1.trans j2.symm)
    omega
  · by_cases e : q = k
    · subst e
      cases hf.symm.trans hx
      rw [if_pos (show q < (q + 1, s').1 from Nat.lt_succ_self q)]
      exact ((f3 q _ hf).ext E).same Wt
    · have lt' := get_lt hx
      have e2 : (if q < (k + 1, s').1 then Value.ref (b + 1 + q) else Value.null) = (if q < (k, s).1 then Value.ref (b + 1 + q) else Value.null) := by
        show (if q < k + 1 then _ else _) = (if q < k then _ else _)
        by_cases q1 : q < k
        · rw [if_pos q1, if_pos (by omega)]
        · rw [if_neg q1, if_neg (by omega)]
      rw [e2]
      refine ((f3 q x hx).ext E).other Wt (Or.inr ?_)
      refine slot_ne (g2 q x hx).1 (g2 k _ hf).1 ?_ (g2 q x hx).2 (g2 k _ hf).2
      intro en
      have n1 : ((cS ci).map (fun x => x.1) ++ (cA ci).map (fun x => x.1))[(cS ci).length + q]? = some x.1 := by rw [List.getElem?_append_right (by simp)]; simp [hx]
      have n2 : ((cS ci).map (fun x => x.1) ++ (cA ci).map (fun x => x.1))[(cS ci).length + k]? = some nm := by rw [List.getElem?_append_right (by simp)]; simp [hf]
      rw [en] at n1
      obtain ⟨i1, j1⟩ := List.getElem?_eq_some_iff.mp n1
      obtain ⟨i2, j2⟩ := List.getElem?_eq_some_iff.mp n2
      have := (List.getElem_inj g3).mp (j1.trans j2.symm)
      omega
  · by_cases e : q = k
    · subst e
      cases hf.symm.trans hx
      exact ⟨cl, A.other Wt (nq (by omega)), ec⟩
    · obtain ⟨c, B, eb⟩ := f4 q x hx (by have : q < k + 1 := hq; show q < k; omega)
      refine ⟨c, (B.ext E).other Wt (nq (by omega)), eb.trans ?_⟩
      rw [ho q x hx e]
theorem go_newV {aty : ArrayType} {ty : FieldType} {nm ds : String} {cap : Nat} {n : Int32} {s' : S} (hty : newarray.typeOf aty = ty) (ha : (cA P.2)[k]? = some (nm, ds, ty, cap)) (k0 : Jvm.Cond.arrayClass ty ∈ P.1) (k1 : Jvm.Cond.fieldLink (cN P.2) idx (cN P.2) nm ds ∈ P.1) (hM : (mY M).cls = cN P.2)
    (hlays : Jvm.Cond.lays (cN P.2) (cN P.2) nm ds ∈ P.1 ∨ (Jvm.Cond.laysFinal (cN P.2) (cN P.2) nm ds ∈ P.1 ∧ (mY M).name = "<init>")) (htM : mTop M = true) (hp : 0 < mN M) (hn : ¬ n < 0) (hcap : Nat.ble n.toNatClampNeg cap = true) (hbig : Nat.ble (cap * 8) 536870912 = true)
    (hR1 : Nat.ble (1 + k + 1) ((mR M).cells + mUC M) = true) (hR2 : Nat.ble (usedS P.2 (none, [(k, s)]) + cap) ((mR M).slots + mUS M) = true)
    (hv : arV ty s' k = List.replicate n.toNatClampNeg (defaultValue ty)) (hoth : ∀ q' x, (cA P.2)[q']? = some x → q' ≠ k → arV x.2.2.1 s' q' = arV x.2.2.1 s q') (hgI : gI s' = gI s) (hgL : gL s' = gL s)
    (d : decode (mB M) pc = .ok (.newarray aty, 2)) (d2 : decode (mB M) (pc + 2) = .ok (.putfield idx, 3)) (g : Go P M (pc + 5) L st (none, [(k + 1, s')]) out) : Go P M pc L (.int n :: .ref 1 :: st) (none, [(k, s)]) out :=
  go_ch (fun l Z a0 p e R s1 m args below meth c α b n0 h0 uC uS ok hl T locs cells slots I => by
    obtain ⟨hw, fa, hx, hZ, hown, hc, hml, hret, hnm, hR, hn0, htop, hsz⟩ := ok
    obtain ⟨X, Rp, Fm, Nl, hs, u1, u2, c1, c2, hN⟩ := I
    obtain ⟨t1, t2, t3⟩ := htop htM
    have u1' : cells + uC = 1 + k := by simpa [usedC] using u1
    have b1 : cells + 1 ≤ R.cells := by have := Nat.le_of_ble_eq_true hR1; rw [hR]; omega
    have b2 : slots + cap ≤ R.slots := by have := Nat.le_of_ble_eq_true hR2; rw [hR]; omega
    subst hty
    obtain ⟨T2, h2, cA2, X2, e2, E2, A2, st2⟩ := newP X hx hZ (hw _ k0) rfl (g := mkF m pc (cL α b L) (.int n :: .ref b :: cV α b st)) rfl (hb hc d) rfl hn (Nat.le_of_ble_eq_true hcap) (Nat.le_of_ble_eq_true hbig) b1 b2
    have hadr : T.heap.size = b + 1 + k := by rw [hs, t1]; omega
    rw [hadr] at A2 st2
    have sz2 : T2.heap.size = T.heap.size + 1 := by
      have q1 := X2.heapSize
      have q2 : b + 1 + k < h2.size := A2.lt
      rw [e2] at q1 ⊢
      omega
    have Rp1 := rep_one Rp
    have Fd := Rp1.2.2.1 k _ ha
    rw [if_neg (show ¬ k < (k, s).1 from Nat.lt_irrefl k)] at Fd
    rw [hM] at hown
    obtain ⟨T3, h3, X3, e3, Wt, st3⟩ := putF X2 hx hZ hown (host := "") (Or.inl (hw _ k1)) Via.refl e2 (Fd.ext E2) (Rp1.1.ext E2) (hlays.imp (fun q => hw _ q) (fun q => ⟨hw _ q.1, rfl, hnm.trans q.2⟩)) fa.1 (fa.2.2.2.1 k _ ha).2 (v := .ref (b + 1 + k)) rfl rfl (g := mkF m (pc + 2) (cL α b L) (.ref (b + 1 + k) :: .ref b :: cV α b st)) rfl rfl (hb hc d2)
    refine ⟨T3, _, _, _, ⟨X3, rep_mk (by rw [e3]; exact rep_new fa Rp1 ha E2 A2 (by rw [hv]; simp [newA]) Wt hoth hgI hgL), by rw [e3]; exact (Fm.ext E2).wr Wt (Nat.le_refl _) (by have := Nat.mul_le_mul_left (cK P.2 + 1) hp; omega), Fr.snoc X3 Nl hn0, by rw [e3, Wt.size, ← e2, sz2, hs]; omega, by simp [usedC]; omega, ?_, b1, b2, hN⟩, fun target r => st2 target (st3 target r)⟩
    have hk := get_lt ha
    simp only [usedS, List.map_cons, List.map_nil, List.sum_cons, List.sum_nil] at u2 ⊢
    rw [List.take_add_one, List.map_append, List.sum_append, ha]
    simp [List.map_take] at u2 ⊢; omega) g
theorem go_newI {aty : ArrayType} {ty : FieldType} {nm ds : String} {cap : Nat} {n : Int32} (hty : newarray.typeOf aty = ty) (hi : ty = .int ∨ ty = .boolean ∨ ty = .byte) (ha : (cA P.2)[k]? = some (nm, ds, ty, cap)) (k0 : Jvm.Cond.arrayClass ty ∈ P.1) (k1 : Jvm.Cond.fieldLink (cN P.2) idx (cN P.2) nm ds ∈ P.1) (hM : (mY M).cls = cN P.2)
    (hlays : Jvm.Cond.lays (cN P.2) (cN P.2) nm ds ∈ P.1 ∨ (Jvm.Cond.laysFinal (cN P.2) (cN P.2) nm ds ∈ P.1 ∧ (mY M).name = "<init>")) (htM : mTop M = true) (hp : 0 < mN M) (hn : ¬ n < 0) (hcap : Nat.ble n.toNatClampNeg cap = true) (hbig : Nat.ble (cap * 8) 536870912 = true)
    (hR1 : Nat.ble (1 + k + 1) ((mR M).cells + mUC M) = true) (hR2 : Nat.ble (usedS P.2 (none, [(k, s)]) + cap) ((mR M).slots + mUS M) = true)
    (d : decode (mB M) pc = .ok (.newarray aty, 2)) (d2 : decode (mB M) (pc + 2) = .ok (.putfield idx, 3)) (g : Go P M (pc + 5) L st (none, [(k + 1, sA s k (rep n.toNatClampNeg 0))]) out) : Go P M pc L (.int n :: .ref 1 :: st) (none, [(k, s)]) out :=
  go_newV hty ha k0 k1 hM hlays htM hp hn hcap hbig hR1 hR2 (by rcases hi with rfl | rfl | rfl <;> simp [arV, gA_sA, defaultValue, rep]) (fun q' x _ h => arV_sA s k _ _ q' h) rfl rfl d d2 g
theorem go_newJ {nm ds : String} {cap : Nat} {n : Int32} (ha : (cA P.2)[k]? = some (nm, ds, .long, cap)) (k0 : Jvm.Cond.arrayClass .long ∈ P.1) (k1 : Jvm.Cond.fieldLink (cN P.2) idx (cN P.2) nm ds ∈ P.1) (hM : (mY M).cls = cN P.2)
    (hlays : Jvm.Cond.lays (cN P.2) (cN P.2) nm ds ∈ P.1 ∨ (Jvm.Cond.laysFinal (cN P.2) (cN P.2) nm ds ∈ P.1 ∧ (mY M).name = "<init>")) (htM : mTop M = true) (hp : 0 < mN M) (hn : ¬ n < 0) (hcap : Nat.ble n.toNatClampNeg cap = true) (hbig : Nat.ble (cap * 8) 536870912 = true)
    (hR1 : Nat.ble (1 + k + 1) ((mR M).cells + mUC M) = true) (hR2 : Nat.ble (usedS P.2 (none, [(k, s)]) + cap) ((mR M).slots + mUS M) = true)
    (d : decode (mB M) pc = .ok (.newarray .long, 2)) (d2 : decode (mB M) (pc + 2) = .ok (.putfield idx, 3)) (g : Go P M (pc + 5) L st (none, [(k + 1, sB s k (rep n.toNatClampNeg 0))]) out) : Go P M pc L (.int n :: .ref 1 :: st) (none, [(k, s)]) out :=
  go_newV (aty := .long) (ty := .long) rfl ha k0 k1 hM hlays htM hp hn hcap hbig hR1 hR2 (by simp [arV, gB_sB, defaultValue, rep]) (fun q' x _ h => arV_sB s k _ _ q' h) rfl rfl d d2 g
end Rules
/-! ## the start -/
theorem tsw_out {x : Int32} {lo hi : Int} (h1 : -2147483648 ≤ lo) (h2 : hi < 2147483648) (ks : List Int32) (hk : ks = ((List.range (hi - lo + 1).toNat).map fun (j : Nat) => Int32.ofInt (lo + (j : Int)))) (hx : ∀ k ∈ ks, x ≠ k) : x.toInt < lo ∨ x.toInt > hi := by
  by_cases q1 : x.toInt < lo
  · exact Or.inl q1
  by_cases q2 : x.toInt > hi
  · exact Or.inr q2
  refine absurd rfl (hx x ?_)
  rw [hk, List.mem_map]
  refine ⟨(x.toInt - lo).toNat, List.mem_range.mpr (by omega), ?_⟩
  rw [show lo + (((x.toInt - lo).toNat : Nat) : Int) = x.toInt by omega]
  exact Int32.ofInt_toInt x
theorem list_of_array {V : Type} (a : Array V) (f : Nat → V) (h : ∀ j, j < a.size → a[j]? = some (f j)) : a = ((List.range a.size).map f).toArray := by
  apply Array.ext'
  apply List.ext_getElem?
  intro j
  by_cases q : j < a.size
  · simpa [q] using h j q
  · simp [q]
theorem small_len {n : Nat} {k : Int32} (h : n < 2 ^ 31) (q : n.toInt32 ≤ k) : (n : Int) ≤ k.toInt := by
  have e : (Int32.ofNat n).toInt = n := Int32.toInt_ofNat_of_lt h
  have := Int32.le_iff_toInt_le.mp q
  rwa [show n.toInt32.toInt = n from e] at this
theorem script_of {s : State} {args : Array Value} {t : Term} {k : Int32} (hf : Fit s) (h1 : (Cond.arrayOf t .int).value args s none s [] = some true) (h2 : (Cond.le (.length t) (.int k)).value args s none s [] = some true) :
    ∃ (a : Nat) (l : List Int32), t.eval args s none [] s = some (.ref a) ∧ Ar s s.heap a .int (l.map .int) ∧ a < s.heap.size ∧ (l.length : Int) ≤ k.toInt := by
  obtain ⟨a, ev⟩ := arr_v h1
  obtain ⟨c, A⟩ := Arr.start ev h1
  obtain ⟨x, y, ex, ey, -, -⟩ := cmp_v (Or.inr (Or.inr h2))
  obtain ⟨b, cell, e1, e2, e3, ev2⟩ := Jvm.Lib.length_spec ex
  have ea : b = a := by rw [ev] at e1; cases e1; rfl
  have ec : cell = c := by
    have := Arr.fin (Vm.Alike.refl _) A
    rw [ea, this] at e2; cases e2; rfl
  subst ea ec ev2
  obtain ⟨n, en, S⟩ := Scr.start hf A e3
  have hle : cell.slots.size.toInt32 ≤ k := by
    have ek : (Term.int k).eval args s none [] s = some (.int k) := rfl
    simp only [Cond.value, ex, ek] at h2
    simpa using h2
  refine ⟨b, (List.range cell.slots.size).map fun j => atv cell (Int32.ofNat j), ev, ⟨cell, A, ?_⟩, A.lt, ?_⟩
  · rw [List.map_map]
    refine list_of_array cell.slots _ fun j hj => ?_
    have e4 : (Int32.ofNat j).toNatClampNeg = j := by
      have : (Int32.ofNat j).toInt = j := Int32.toInt_ofNat_of_lt (by omega)
      simp [Int32.toNatClampNeg, this]
    have e5 : ¬ (Int32.ofNat j < 0) := by
      rw [Int32.lt_iff_toInt_lt, Int32.toInt_ofNat_of_lt (by omega)]; simp
    have := S.2.2.2 (Int32.ofNat j) (by rw [e4]; rintro (q | q); exact e5 q; omega)
    rw [e4] at this
    exact this
  · simpa using small_len e3 hle
theorem repW_none (Z : State) (ci : CI) (α b : Nat) (h : Heap) : RepW Z ci α b (none, []) h := ⟨fun l hl => (by cases hl), fun i o ho => (by simp at ho)⟩
theorem repW_some {Z : State} {ci : CI} {α b : Nat} {h : Heap} {l : List Int32} (A : Ar Z h α .int (l.map .int)) (q : α < b) : RepW Z ci α b (some l, []) h := ⟨fun l' hl => by cases hl; exact ⟨A, q⟩, fun i o ho => by simp at ho⟩
end Jvm.AM
/-! ## plain lemmas on ints, arrays and updates -/
namespace Jvm.PL
open Jvm.AM
theorem ofNat_toInt {k : Nat} (h : k < 2147483648) : (Int32.ofNat k).toInt = k := Int32.toInt_ofNat_of_lt h
theorem ofNat_lt {k m : Nat} (hk : k < 2147483648) (hm : m < 2147483648) : Int32.ofNat k < Int32.ofNat m ↔ k < m := by
  rw [Int32.lt_iff_toInt_lt, ofNat_toInt hk, ofNat_toInt hm]; omega
theorem lt_lit {k m : Nat} (hk : k < 2147483648) (hm : m < 2147483648 := by decide) : Int32.ofNat k < (OfNat.ofNat m : Int32) ↔ k < m := ofNat_lt hk hm
theorem ofNat_succ (k : Nat) : Int32.ofNat k + 1 = Int32.ofNat (k + 1) := by
  rw [Int32.ofNat_add]; rfl
theorem ofNat_nonneg {k : Nat} (hk : k < 2147483648) : ¬ Int32.ofNat k < 0 := by rw [Int32.lt_iff_toInt_lt, ofNat_toInt hk]; simp
theorem ofNat_clamp {k : Nat} (hk : k < 2147483648) : (Int32.ofNat k).toNatClampNeg = k := by simp [Int32.toNatClampNeg, ofNat_toInt hk]
theorem ix_ofNat {A : Type} (l : List A) {k : Nat} (hk : k < 2147483648) : ix l (Int32.ofNat k) = l[k]? := by
  unfold ix; rw [if_neg (ofNat_nonneg hk), ofNat_clamp hk]
theorem st_ofNat {A : Type} (l : List A) (x : A) {k : Nat} (hk : k < 2147483648) (hl : k < l.length) : Jvm.AM.st l (Int32.ofNat k) x = some (l.set k x) := by
  unfold Jvm.AM.st; rw [if_neg (ofNat_nonneg hk), ofNat_clamp hk, if_pos hl]
theorem toInt_clamp {v : Int32} (h : ¬ v < 0) : (v.toNatClampNeg : Int) = v.toInt := by
  rw [Int32.lt_iff_toInt_lt] at h
  simp only [Int32.toNatClampNeg]
  have : (0 : Int32).toInt = 0 := rfl
  omega
theorem eq_ofNat {v : Int32} (h : ¬ v < 0) : v = Int32.ofNat v.toNatClampNeg ∧ v.toNatClampNeg < 2147483648 := by
  have h1 := toInt_clamp h
  have h2 := v.toInt_lt
  have h3 : v.toNatClampNeg < 2147483648 := by omega
  refine ⟨Int32.toInt_inj.mp ?_, h3⟩
  rw [ofNat_toInt h3]; exact h1.symm
theorem ix_rep {A : Type} {v : Int32} {n : Nat} {x : A} (h0 : ¬ v < 0) (h1 : v < Int32.ofNat n) (hn : n < 2147483648) : ix (rep n x) v = some x := by
  obtain ⟨e, hl⟩ := eq_ofNat h0
  rw [e] at h1 ⊢
  have h2 := (ofNat_lt hl hn).mp h1
  rw [ix_ofNat _ hl, rep_get, if_pos h2]
theorem ix_nat {A : Type} (l : List A) {v : Int32} (h0 : ¬ v < 0) : ix l v = l[v.toNatClampNeg]? := by unfold ix; rw [if_neg h0]
theorem st_nat {A : Type} (l : List A) {v : Int32} {x : A} (h0 : ¬ v < 0) (hl : v.toNatClampNeg < l.length) : Jvm.AM.st l v x = some (l.set v.toNatClampNeg x) := by
  unfold Jvm.AM.st; rw [if_neg h0, if_pos hl]
theorem clamp_lt {v : Int32} {n : Nat} (h0 : ¬ v < 0) (h1 : v < Int32.ofNat n) (hn : n < 2147483648) : v.toNatClampNeg < n := by
  obtain ⟨e, hl⟩ := eq_ofNat h0
  rw [e] at h1
  exact (ofNat_lt hl hn).mp h1
theorem clamp_inj {v w : Int32} (h0 : ¬ v < 0) (h1 : ¬ w < 0) : v.toNatClampNeg = w.toNatClampNeg ↔ v = w := by
  constructor
  · intro h
    have a := toInt_clamp h0
    have b := toInt_clamp h1
    exact Int32.toInt_inj.mp (by omega)
  · intro h; rw [h]
end Jvm.PL
namespace Jvm.PL
open Jvm.AM
/-- all but the named fields and arrays is as it was -/
def Fx (I L A B : List Nat) (s s' : S) : Prop := (∀ f, f ∉ I → gI s' f = gI s f) ∧ (∀ f, f ∉ L → gL s' f = gL s f) ∧ (∀ f, f ∉ A → gA s' f = gA s f) ∧ (∀ f, f ∉ B → gB s' f = gB s f)
theorem Fx.refl (I L A B : List Nat) (s : S) : Fx I L A B s s := ⟨fun _ _ => rfl, fun _ _ => rfl, fun _ _ => rfl, fun _ _ => rfl⟩
theorem Fx.trans {I L A B : List Nat} {s t u : S} (h : Fx I L A B s t) (k : Fx I L A B t u) : Fx I L A B s u :=
  ⟨fun f q => (k.1 f q).trans (h.1 f q), fun f q => (k.2.1 f q).trans (h.2.1 f q), fun f q => (k.2.2.1 f q).trans (h.2.2.1 f q), fun f q => (k.2.2.2 f q).trans (h.2.2.2 f q)⟩
theorem Fx.mono {I L A B I' L' A' B' : List Nat} {s t : S} (h : Fx I L A B s t) (a : ∀ f ∈ I, f ∈ I') (b : ∀ f ∈ L, f ∈ L') (c : ∀ f ∈ A, f ∈ A') (d : ∀ f ∈ B, f ∈ B') : Fx I' L' A' B' s t :=
  ⟨fun f q => h.1 f fun x => q (a f x), fun f q => h.2.1 f fun x => q (b f x), fun f q => h.2.2.1 f fun x => q (c f x), fun f q => h.2.2.2 f fun x => q (d f x)⟩
theorem Fx.sA {I L A B : List Nat} {s t : S} {f : Nat} {l : List Int32} (h : Fx I L A B s t) (hf : f ∈ A) : Fx I L A B s (Jvm.AM.sA t f l) :=
  ⟨fun g q => (gI_sA _ _ _ _).trans (h.1 g q), fun g q => (gL_sA _ _ _ _).trans (h.2.1 g q), fun g q => by rw [gA_sA, if_neg (fun e : g = f => q (e ▸ hf))]; exact h.2.2.1 g q, fun g q => (gB_sA _ _ _ _).trans (h.2.2.2 g q)⟩
theorem Fx.sI {I L A B : List Nat} {s t : S} {f : Nat} {l : Int32} (h : Fx I L A B s t) (hf : f ∈ I) : Fx I L A B s (Jvm.AM.sI t f l) :=
  ⟨fun g q => by rw [gI_sI, if_neg (fun e : g = f => q (e ▸ hf))]; exact h.1 g q, fun g q => (gL_sI _ _ _ _).trans (h.2.1 g q), fun g q => (gA_sI _ _ _ _).trans (h.2.2.1 g q), fun g q => (gB_sI _ _ _ _).trans (h.2.2.2 g q)⟩
theorem Fx.sL {I L A B : List Nat} {s t : S} {f : Nat} {l : Int64} (h : Fx I L A B s t) (hf : f ∈ L) : Fx I L A B s (Jvm.AM.sL t f l) :=
  ⟨fun g q => (gI_sL _ _ _ _).trans (h.1 g q), fun g q => by rw [gL_sL, if_neg (fun e : g = f => q (e ▸ hf))]; exact h.2.1 g q, fun g q => (gA_sL _ _ _ _).trans (h.2.2.1 g q), fun g q => (gB_sL _ _ _ _).trans (h.2.2.2 g q)⟩
theorem Fx.sB {I L A B : List Nat} {s t : S} {f : Nat} {l : List Int64} (h : Fx I L A B s t) (hf : f ∈ B) : Fx I L A B s (Jvm.AM.sB t f l) :=
  ⟨fun g q => (gI_sB _ _ _ _).trans (h.1 g q), fun g q => (gL_sB _ _ _ _).trans (h.2.1 g q), fun g q => (gA_sB _ _ _ _).trans (h.2.2.1 g q), fun g q => by rw [gB_sB, if_neg (fun e : g = f => q (e ▸ hf))]; exact h.2.2.2 g q⟩
theorem ofNat_add' (a b : Nat) : Int32.ofNat a + Int32.ofNat b = Int32.ofNat (a + b) := (Int32.ofNat_add a b).symm
/-- the first k entries are x -/
def Upto {A : Type} (l : List A) (k : Nat) (x : A) : Prop := ∀ i, i < k → l[i]? = some x
theorem Upto.zero {A : Type} (l : List A) (x : A) : Upto l 0 x := fun _ h => absurd h (Nat.not_lt_zero _)
theorem Upto.set {A : Type} {l : List A} {k : Nat} {x : A} (h : Upto l k x) (hk : k < l.length) : Upto (l.set k x) (k + 1) x := fun i hi => by
  by_cases e : i = k
  · subst e; simp [hk]
  · rw [List.getElem?_set_ne (Ne.symm e)]; exact h i (by omega)
theorem Upto.all {A : Type} {l : List A} {k : Nat} {x : A} (h : Upto l k x) (hk : l.length = k) : l = rep k x := by
  apply List.ext_getElem?
  intro i
  rw [rep_get]
  by_cases q : i < k
  · rw [if_pos q]; exact h i q
  · rw [if_neg q, List.getElem?_eq_none (by omega)]
end Jvm.PL
namespace Jvm.PL
open Jvm.AM
/-- a loop by its invariant; m: the turns that are left -/
theorem run_loop {A B : Type} (L : Nat → A → B) (F : A → B) (I : Nat → A → Prop) (h : ∀ n m a, I (m + 1) a → ∃ a', L (n + 1) a = L n a' ∧ I m a') (h0 : ∀ n a, I 0 a → L (n + 1) a = F a) : ∀ m n a, m < n → I m a → ∃ a', L n a = F a' ∧ I 0 a'
  | 0, n + 1, a, _, i => ⟨a, h0 n a i, i⟩
  | m + 1, n + 1, a, q, i => by
    obtain ⟨a', e, i'⟩ := h n m a i
    obtain ⟨a'', e', i''⟩ := run_loop L F I h h0 m n a' (by omega) i'
    exact ⟨a'', e.trans e', i''⟩
/-- 'for k in 0 .. N' -/
theorem run_for {B : Type} (L : Nat → Int32 → S → B) (F : S → B) (N : Nat) (I : Nat → S → Prop) (h : ∀ n k s, k < N → I k s → ∃ s', L (n + 1) (Int32.ofNat k) s = L n (Int32.ofNat (k + 1)) s' ∧ I (k + 1) s') (h0 : ∀ n s, I N s → L (n + 1) (Int32.ofNat N) s = F s) (n : Nat) (s : S) (hn : N < n) (i : I 0 s) :
    ∃ s', L n (Int32.ofNat 0) s = F s' ∧ I N s' := by
  obtain ⟨a, e, k, hk, ea, ia⟩ := run_loop (fun n (a : Int32 × S) => L n a.1 a.2) (fun a => F a.2) (fun m a => ∃ k, k + m = N ∧ a.1 = Int32.ofNat k ∧ I k a.2)
    (fun n m a ⟨k, h1, h2, h3⟩ => by
      obtain ⟨s', e, i'⟩ := h n k a.2 (by omega) h3
      exact ⟨(Int32.ofNat (k + 1), s'), by show L (n + 1) a.1 a.2 = _; rw [h2]; exact e, k + 1, by omega, rfl, i'⟩)
    (fun n a ⟨k, h1, h2, h3⟩ => by
      have : k = N := by omega
      subst this
      show L (n + 1) a.1 a.2 = _; rw [h2]; exact h0 n a.2 h3) N n (Int32.ofNat 0, s) hn ⟨0, by omega, rfl, i⟩
  have : k = N := by omega
  subst this
  exact ⟨a.2, e, ia⟩
end Jvm.PL
namespace Jvm.PL
open Jvm.AM
/-- the end test of a loop over a script -/
theorem len_lt {n k c : Nat} (hn : n ≤ 100000) (hk : k ≤ 100000) (hc : c ≤ 100000) : (n.toInt32 - Int32.ofNat c) < Int32.ofNat k ↔ n < k + c := by
  rw [Int32.lt_iff_toInt_lt, Int32.toInt_sub, show n.toInt32 = Int32.ofNat n from rfl, ofNat_toInt (by omega), ofNat_toInt (by omega), ofNat_toInt (by omega)]
  have : ((n : Int) - c).bmod (2 ^ 32) = n - c := by
    rw [Int.bmod_eq_of_le] <;> omega
  rw [this]; omega
/-- a loop over a script, c entries a turn: it ends in what every way out says -/
theorem run_script {A B : Type} (L : Nat → Int32 → A → B) (c len : Nat) (hc : 0 < c) (P : B → Prop) (I : Nat → A → Prop) (h : ∀ n k a, k + c ≤ len → I k a → P (L (n + 1) (Int32.ofNat k) a) ∨ ∃ a', L (n + 1) (Int32.ofNat k) a = L n (Int32.ofNat (k + c)) a' ∧ I (k + c) a') (h0 : ∀ n k a, k ≤ len → len < k + c → I k a → P (L (n + 1) (Int32.ofNat k) a)) : ∀ n k a, len < n + k → k ≤ len → I k a → P (L n (Int32.ofNat k) a)
  | 0, k, a, hn, hk, i => by omega
  | n + 1, k, a, hn, hk, i => by
    by_cases q : k + c ≤ len
    · rcases h n k a q i with p | ⟨a', e, i'⟩
      · exact p
      · rw [e]; exact run_script L c len hc P I h h0 n (k + c) a' (by omega) q i'
    · exact h0 n k a hk (by omega) i
theorem ix_some {A : Type} (l : List A) {k : Nat} (hk : k < 2147483648) (hl : k < l.length) : ∃ x, ix l (Int32.ofNat k) = some x := ⟨l[k], by rw [ix_ofNat _ hk, List.getElem?_eq_getElem hl]⟩
theorem ofNat_lit (a b : Nat) : Int32.ofNat a + (OfNat.ofNat b : Int32) = Int32.ofNat (a + b) := ofNat_add' a b
end Jvm.PL
namespace Jvm.PL
open Jvm.AM
theorem upd_same {A : Type} (g : Nat → A) (f : Nat) (a b : A) : aupd (aupd g f a) f b = aupd g f b := by
  funext x; unfold aupd; by_cases q : x = f <;> simp [q]
theorem upd_comm {A : Type} (g : Nat → A) {f h : Nat} (n : f ≠ h) (a b : A) : aupd (aupd g f a) h b = aupd (aupd g h b) f a := by
  funext x; unfold aupd
  by_cases q : x = f
  · have : ¬ f = h := n
    simp [q, this]
  · by_cases r : x = h
    · rw [if_pos r, if_neg q, if_pos r]
    · rw [if_neg r, if_neg q, if_neg q, if_neg r]
theorem sA_same (s : S) (f : Nat) (a b : List Int32) : Jvm.AM.sA (Jvm.AM.sA s f a) f b = Jvm.AM.sA s f b := by
  unfold Jvm.AM.sA; simp only [upd_same]
theorem sA_comm (s : S) {f h : Nat} (n : f ≠ h) (a b : List Int32) : Jvm.AM.sA (Jvm.AM.sA s f a) h b = Jvm.AM.sA (Jvm.AM.sA s h b) f a := by
  unfold Jvm.AM.sA; simp only; rw [upd_comm _ n]
end Jvm.PL
/-! ## rows of bits -/
namespace Jvm.PL
open Jvm.AM Jvm.Free
def bt (w : Int32) (y : Nat) : Bool := w.toBitVec.getLsbD y
theorem bt_zero (y : Nat) : bt 0 y = false := by simp [bt]
theorem bt_or (a b : Int32) (y : Nat) : bt (a ||| b) y = (bt a y || bt b y) := by simp [bt]
theorem bt_and (a b : Int32) (y : Nat) : bt (a &&& b) y = (bt a y && bt b y) := by simp [bt]
theorem bt_ge (w : Int32) {y : Nat} (h : 32 ≤ y) : bt w y = false := by unfold bt; exact BitVec.getLsbD_of_ge _ _ h
theorem bt_m1 {y : Nat} (h : y < 32) : bt (-1) y = true := by
  unfold bt
  rw [show (-1 : Int32).toBitVec = BitVec.allOnes 32 from rfl, BitVec.getLsbD_allOnes]
  simp [h]
theorem bt_not (a : Int32) {y : Nat} (h : y < 32) : bt (a ^^^ (-1)) y = !bt a y := by
  have := bt_m1 h
  unfold bt at *
  rw [Int32.toBitVec_xor, BitVec.getLsbD_xor, this]; simp
theorem bt_andn (a b : Int32) (y : Nat) : bt (a &&& (b ^^^ (-1))) y = (bt a y && !bt b y) := by
  rw [bt_and]
  by_cases h : y < 32
  · rw [bt_not b h]
  · rw [bt_ge a (by omega)]; simp
theorem bt_ext {a b : Int32} (h : ∀ y, y < 32 → bt a y = bt b y) : a = b := by
  apply Int32.toBitVec_inj.mp
  apply BitVec.eq_of_getLsbD_eq
  intro i hi
  exact h i hi
theorem bt_eq0 {w : Int32} : w = 0 ↔ ∀ y, y < 32 → bt w y = false := by
  constructor
  · rintro rfl y _; exact bt_zero y
  · intro h; exact bt_ext fun y hy => by rw [h y hy, bt_zero]
theorem ushr_bit (w : Int32) {y : Nat} (hy : y < 32) : (XT.ushr w (Int32.ofNat y)).toBitVec = w.toBitVec >>> y := by
  unfold XT.ushr
  have h1 : ((Int32.ofNat y &&& 31).toUInt32.toBitVec).toNat = y := by
    show ((Int32.ofNat y &&& 31).toBitVec).toNat = y
    rw [Int32.toBitVec_and, BitVec.toNat_and]
    have e1 : (Int32.ofNat y).toBitVec.toNat = y := by
      show (BitVec.ofNat 32 y).toNat = y
      rw [BitVec.toNat_ofNat]; omega
    have e2 : (31 : Int32).toBitVec.toNat = 31 := rfl
    rw [e1, e2, show 31 = 2 ^ 5 - 1 from rfl, Nat.and_two_pow_sub_one_eq_mod]; omega
  show (w.toUInt32 >>> (Int32.ofNat y &&& 31).toUInt32).toBitVec = _
  rw [UInt32.toBitVec_shiftRight]
  show w.toBitVec >>> ((Int32.ofNat y &&& 31).toUInt32.toBitVec % 32) = _
  rw [BitVec.ushiftRight_eq']
  congr 1
  rw [BitVec.toNat_umod, h1]
  show y % 32 = y
  omega
theorem and1 (w : Int32) : (w &&& 1 = 0) ↔ bt w 0 = false := by
  constructor
  · intro h
    have : bt (w &&& 1) 0 = false := by rw [h, bt_zero]
    rw [bt_and] at this
    simpa [show bt 1 0 = true from rfl] using this
  · intro h
    refine bt_ext fun y hy => ?_
    rw [bt_and, bt_zero]
    cases y with
    | zero => rw [h]; rfl
    | succ y =>
      have : bt 1 (y + 1) = false := by
        unfold bt
        show (1#32).getLsbD (y + 1) = false
        simp [BitVec.getLsbD_one]
      rw [this]; simp
theorem test_bit (w : Int32) {y : Nat} (hy : y < 32) : (XT.ushr w (Int32.ofNat y) &&& 1 = 0) ↔ bt w y = false := by
  rw [and1]
  unfold bt
  rw [ushr_bit w hy]; simp
theorem shl_bit {b : Nat} (hb : b < 32) (y : Nat) : bt ((1 : Int32) <<< (Int32.ofNat b &&& 31)) y = decide (y = b) := by
  have h1 : (Int32.ofNat b &&& 31) = Int32.ofNat b := by
    apply Int32.toBitVec_inj.mp
    rw [Int32.toBitVec_and]
    apply BitVec.eq_of_toNat_eq
    rw [BitVec.toNat_and]
    have e1 : (Int32.ofNat b).toBitVec.toNat = b := by
      show (BitVec.ofNat 32 b).toNat = b
      rw [BitVec.toNat_ofNat]; omega
    have e2 : (31 : Int32).toBitVec.toNat = 31 := rfl
    rw [e1, e2, show 31 = 2 ^ 5 - 1 from rfl, Nat.and_two_pow_sub_one_eq_mod]; omega
  rw [h1]
  unfold bt
  have e : ((1 : Int32) <<< Int32.ofNat b).toBitVec = (1#32) <<< b := by
    rw [Int32.toBitVec_shiftLeft]
    show (1#32) <<< ((Int32.ofNat b).toBitVec.smod 32) = _
    have : (Int32.ofNat b).toBitVec.smod 32 = BitVec.ofNat 32 b := by
      have hz : ∀ b : Fin 32, (Int32.ofNat b.val).toBitVec.smod 32 = BitVec.ofNat 32 b.val := by decide
      exact hz ⟨b, hb⟩
    rw [this, BitVec.shiftLeft_eq']
    congr 1
    rw [BitVec.toNat_ofNat]; omega
  rw [e]
  simp only [BitVec.getLsbD_shiftLeft, BitVec.getLsbD_one]
  by_cases h : y = b
  · subst h; simp [hb]
  · simp [h]; omega
end Jvm.PL
namespace Jvm.Pilot.@@N@@
open Jvm Jvm.ClassFile Sem Op Lib Jvm.Free Jvm.Stand Jvm.LawKit Jvm.RoadKit Jvm.AM Jvm.PL Jvm.Pilot.@@N@@.Jvm.D
def ci1 : CI := ("PageCompactorY", 19, [("frameTotal", "I", .int), ("pageTotal", "I", .int), ("freeSet", "J", .long), ("mappedSet", "J", .long), ("pinnedSet", "J", .long), ("reservedSet", "J", .long), ("runsStale", "Z", .boolean), ("scanLimit", "I", .int), ("scanMoved", "I", .int), ("scanMigrate", "I", .int), ("scanFree", "I", .int)], [("frameStates", "[B", .byte, 64), ("frameValues", "[I", .int, 64), ("frameCounts", "[I", .int, 64), ("pageFrame", "[I", .int, 64), ("rmapHead", "[I", .int, 64), ("rmapNext", "[I", .int, 64), ("rmapPrev", "[I", .int, 64), ("runSet", "[J", .long, 7)])
def PP : PI := (tables_1, ci1)
def BIG : Nat := 1000000
def m0 : Meth := (⟨"PageCompactorY", "clampInt", "(III)I"⟩, prog_1_method_18_code, 4, (some .int), { frames := 0, cells := 0, slots := 0, locals := 0 }, 1, false, 0, 0)
def m1 : Meth := (⟨"PageCompactorY", "lowMask", "(I)J"⟩, prog_1_method_42_code, 2, (some .long), { frames := 0, cells := 0, slots := 0, locals := 0 }, 1, false, 0, 0)
def m2 : Meth := (⟨"PageCompactorY", "resetAll", "()V"⟩, prog_1_method_24_code, 2, none, { frames := 1, cells := 0, slots := 0, locals := 14 }, 1, false, 0, 0)
def m3 : Meth := (⟨"PageCompactorY", "<init>", "(II)V"⟩, prog_1_method_1_code, 3, none, { frames := 2, cells := 8, slots := 455, locals := 27 }, 1, true, 1, 19)
def m4 : Meth := (⟨"PageCompactorY", "pageInRange", "(II)Z"⟩, prog_1_method_19_code, 3, (some .boolean), { frames := 0, cells := 0, slots := 0, locals := 0 }, 1, false, 0, 0)
def m5 : Meth := (⟨"PageCompactorY", "slotOf", "(II)I"⟩, prog_1_method_21_code, 3, (some .int), { frames := 0, cells := 0, slots := 0, locals := 0 }, 1, false, 0, 0)
def m6 : Meth := (⟨"PageCompactorY", "checkTarget", "(II)I"⟩, prog_1_method_22_code, 4, (some .int), { frames := 1, cells := 0, slots := 0, locals := 14 }, 1, false, 0, 0)
def m7 : Meth := (⟨"PageCompactorY", "lowestBit", "(J)I"⟩, prog_1_method_44_code, 6, (some .int), { frames := 0, cells := 0, slots := 0, locals := 0 }, 1, false, 0, 0)
def m8 : Meth := (⟨"PageCompactorY", "frameInRange", "(I)Z"⟩, prog_1_method_20_code, 2, (some .boolean), { frames := 0, cells := 0, slots := 0, locals := 0 }, 1, false, 0, 0)
def m9 : Meth := (⟨"PageCompactorY", "bitOf", "(I)J"⟩, prog_1_method_41_code, 2, (some .long), { frames := 0, cells := 0, slots := 0, locals := 0 }, 1, false, 0, 0)
def m10 : Meth := (⟨"PageCompactorY", "enterState", "(II)V"⟩, prog_1_method_25_code, 5, none, { frames := 1, cells := 0, slots := 0, locals := 13 }, 1, false, 0, 0)
def m11 : Meth := (⟨"PageCompactorY", "rmapLink", "(II)V"⟩, prog_1_method_31_code, 4, none, { frames := 0, cells := 0, slots := 0, locals := 0 }, 1, false, 0, 0)
def m12 : Meth := (⟨"PageCompactorY", "attachPage", "(II)V"⟩, prog_1_method_29_code, 3, none, { frames := 1, cells := 0, slots := 0, locals := 15 }, 1, false, 0, 0)
def m13 : Meth := (⟨"PageCompactorY", "mapNew", "(III)I"⟩, prog_1_method_2_code, 7, (some .int), { frames := 2, cells := 0, slots := 0, locals := 29 }, 1, false, 0, 0)
def m14 : Meth := (⟨"PageCompactorY", "share", "(IIII)I"⟩, prog_1_method_3_code, 8, (some .int), { frames := 2, cells := 0, slots := 0, locals := 29 }, 1, false, 0, 0)
def m15 : Meth := (⟨"PageCompactorY", "rmapUnlink", "(I)I"⟩, prog_1_method_32_code, 5, (some .int), { frames := 0, cells := 0, slots := 0, locals := 0 }, 1, false, 0, 0)
def m16 : Meth := (⟨"PageCompactorY", "detachPage", "(I)I"⟩, prog_1_method_30_code, 3, (some .int), { frames := 1, cells := 0, slots := 0, locals := 16 }, 1, false, 0, 0)
def m17 : Meth := (⟨"PageCompactorY", "freeFrame", "(I)V"⟩, prog_1_method_26_code, 2, none, { frames := 2, cells := 0, slots := 0, locals := 29 }, 1, false, 0, 0)
def m18 : Meth := (⟨"PageCompactorY", "unmap", "(II)I"⟩, prog_1_method_4_code, 5, (some .int), { frames := 3, cells := 0, slots := 0, locals := 42 }, 1, false, 0, 0)
def m19 : Meth := (⟨"PageCompactorY", "mappedFrame", "(II)I"⟩, prog_1_method_23_code, 5, (some .int), { frames := 1, cells := 0, slots := 0, locals := 14 }, 1, false, 0, 0)
def m20 : Meth := (⟨"PageCompactorY", "write", "(III)Z"⟩, prog_1_method_5_code, 5, (some .boolean), { frames := 2, cells := 0, slots := 0, locals := 30 }, 1, false, 0, 0)
def m21 : Meth := (⟨"PageCompactorY", "pin", "(I)Z"⟩, prog_1_method_8_code, 2, (some .boolean), { frames := 2, cells := 0, slots := 0, locals := 29 }, 1, false, 0, 0)
def m22 : Meth := (⟨"PageCompactorY", "unpin", "(I)Z"⟩, prog_1_method_9_code, 2, (some .boolean), { frames := 2, cells := 0, slots := 0, locals := 29 }, 1, false, 0, 0)
def m23 : Meth := (⟨"PageCompactorY", "alignMask", "(I)J"⟩, prog_1_method_36_code, 2, (some .long), { frames := 0, cells := 0, slots := 0, locals := 0 }, 1, false, 0, 0)
def m24 : Meth := (⟨"PageCompactorY", "refreshRuns", "()V"⟩, prog_1_method_35_code, 7, none, { frames := 1, cells := 0, slots := 0, locals := 13 }, 1, false, 0, 0)
def m25 : Meth := (⟨"PageCompactorY", "freeRunsOfOrder", "(I)J"⟩, prog_1_method_34_code, 2, (some .long), { frames := 2, cells := 0, slots := 0, locals := 31 }, 1, false, 0, 0)
def m26 : Meth := (⟨"PageCompactorY", "reserveFrame", "(I)V"⟩, prog_1_method_27_code, 2, none, { frames := 2, cells := 0, slots := 0, locals := 29 }, 1, false, 0, 0)
def m27 : Meth := (⟨"PageCompactorY", "reserveRun", "(II)V"⟩, prog_1_method_28_code, 5, none, { frames := 3, cells := 0, slots := 0, locals := 42 }, 1, false, 0, 0)
def m28 : Meth := (⟨"PageCompactorY", "allocBlock", "(I)I"⟩, prog_1_method_10_code, 5, (some .int), { frames := 4, cells := 0, slots := 0, locals := 58 }, 1, false, 0, 0)
def m29 : Meth := (⟨"PageCompactorY", "release", "(I)Z"⟩, prog_1_method_11_code, 2, (some .boolean), { frames := 3, cells := 0, slots := 0, locals := 42 }, 1, false, 0, 0)
def m30 : Meth := (⟨"PageCompactorY", "rangeMask", "(II)J"⟩, prog_1_method_43_code, 7, (some .long), { frames := 1, cells := 0, slots := 0, locals := 13 }, 1, false, 0, 0)
def m31 : Meth := (⟨"PageCompactorY", "advanceMigrateScanner", "()V"⟩, prog_1_method_37_code, 5, none, { frames := 2, cells := 0, slots := 0, locals := 31 }, 1, false, 0, 0)
def m32 : Meth := (⟨"PageCompactorY", "highestBit", "(J)I"⟩, prog_1_method_45_code, 6, (some .int), { frames := 0, cells := 0, slots := 0, locals := 0 }, 1, false, 0, 0)
def m33 : Meth := (⟨"PageCompactorY", "retreatFreeScanner", "()V"⟩, prog_1_method_38_code, 5, none, { frames := 2, cells := 0, slots := 0, locals := 31 }, 1, false, 0, 0)
def m34 : Meth := (⟨"PageCompactorY", "scannersDone", "()Z"⟩, prog_1_method_39_code, 1, (some .boolean), { frames := 0, cells := 0, slots := 0, locals := 0 }, 1, false, 0, 0)
def m35 : Meth := (⟨"PageCompactorY", "rmapTransfer", "(II)V"⟩, prog_1_method_33_code, 5, none, { frames := 0, cells := 0, slots := 0, locals := 0 }, 1, false, 0, 0)
def m36 : Meth := (⟨"PageCompactorY", "migrateFrame", "(II)V"⟩, prog_1_method_40_code, 5, none, { frames := 3, cells := 0, slots := 0, locals := 42 }, 1, false, 0, 0)
def m37 : Meth := (⟨"PageCompactorY", "compact", "(I)I"⟩, prog_1_method_12_code, 3, (some .int), { frames := 4, cells := 0, slots := 0, locals := 58 }, 1, false, 0, 0)
def m38 : Meth := (⟨"PageCompactorYL7", "step", "(LPageCompactorY;IIII)V"⟩, method_2_code, 8, none, { frames := 5, cells := 0, slots := 0, locals := 74 }, 2, false, 0, 0)
def m39 : Meth := (⟨"PageCompactorY", "bitCount", "(J)I"⟩, prog_1_method_46_code, 5, (some .int), { frames := 0, cells := 0, slots := 0, locals := 0 }, 1, false, 0, 0)
def m40 : Meth := (⟨"PageCompactorY", "freeCount", "()I"⟩, prog_1_method_16_code, 1, (some .int), { frames := 1, cells := 0, slots := 0, locals := 16 }, 1, false, 0, 0)
def m41 : Meth := (⟨"PageCompactorY", "frameOf", "(II)I"⟩, prog_1_method_7_code, 4, (some .int), { frames := 2, cells := 0, slots := 0, locals := 30 }, 1, false, 0, 0)
def m42 : Meth := (⟨"PageCompactorY", "read", "(II)I"⟩, prog_1_method_6_code, 4, (some .int), { frames := 2, cells := 0, slots := 0, locals := 30 }, 1, false, 0, 0)
def m43 : Meth := (⟨"PageCompactorY", "mapCount", "(I)I"⟩, prog_1_method_15_code, 2, (some .int), { frames := 1, cells := 0, slots := 0, locals := 13 }, 1, false, 0, 0)
def m44 : Meth := (⟨"PageCompactorY", "frameState", "(I)I"⟩, prog_1_method_13_code, 2, (some .int), { frames := 1, cells := 0, slots := 0, locals := 13 }, 1, false, 0, 0)
def m45 : Meth := (⟨"PageCompactorY", "frameValue", "(I)I"⟩, prog_1_method_14_code, 3, (some .int), { frames := 1, cells := 0, slots := 0, locals := 13 }, 1, false, 0, 0)
def m46 : Meth := (x, code, maxLocals, ret, room_1, 2, true, 0, 0)
theorem ar_0 : (cA PP.2)[0]? = some ("frameStates", "[B", .byte, 64) := rfl
theorem ar_1 : (cA PP.2)[1]? = some ("frameValues", "[I", .int, 64) := rfl
theorem ar_2 : (cA PP.2)[2]? = some ("frameCounts", "[I", .int, 64) := rfl
theorem ar_3 : (cA PP.2)[3]? = some ("pageFrame", "[I", .int, 64) := rfl
theorem ar_4 : (cA PP.2)[4]? = some ("rmapHead", "[I", .int, 64) := rfl
theorem ar_5 : (cA PP.2)[5]? = some ("rmapNext", "[I", .int, 64) := rfl
theorem ar_6 : (cA PP.2)[6]? = some ("rmapPrev", "[I", .int, 64) := rfl
theorem ar_7 : (cA PP.2)[7]? = some ("runSet", "[J", .long, 7) := rfl
theorem fa_7 : FldA PP 7 0 .byte := ⟨_, _, _, rfl, List.mem_of_getElem? (i := 10) rfl⟩
theorem fa_13 : FldA PP 13 1 .int := ⟨_, _, _, rfl, List.mem_of_getElem? (i := 13) rfl⟩
theorem fa_17 : FldA PP 17 2 .int := ⟨_, _, _, rfl, List.mem_of_getElem? (i := 15) rfl⟩
theorem fa_20 : FldA PP 20 3 .int := ⟨_, _, _, rfl, List.mem_of_getElem? (i := 17) rfl⟩
theorem fa_23 : FldA PP 23 4 .int := ⟨_, _, _, rfl, List.mem_of_getElem? (i := 19) rfl⟩
theorem fa_26 : FldA PP 26 5 .int := ⟨_, _, _, rfl, List.mem_of_getElem? (i := 21) rfl⟩
theorem fa_29 : FldA PP 29 6 .int := ⟨_, _, _, rfl, List.mem_of_getElem? (i := 23) rfl⟩
theorem fa_32 : FldA PP 32 7 .long := ⟨_, _, _, rfl, List.mem_of_getElem? (i := 26) rfl⟩
theorem fs_40 : FldS PP 40 0 .int := ⟨_, _, rfl, List.mem_of_getElem? (i := 32) rfl⟩
theorem fs_44 : FldS PP 44 1 .int := ⟨_, _, rfl, List.mem_of_getElem? (i := 34) rfl⟩
theorem fs_54 : FldS PP 54 2 .long := ⟨_, _, rfl, List.mem_of_getElem? (i := 44) rfl⟩
theorem fs_98 : FldS PP 98 7 .int := ⟨_, _, rfl, List.mem_of_getElem? (i := 141) rfl⟩
theorem fs_101 : FldS PP 101 8 .int := ⟨_, _, rfl, List.mem_of_getElem? (i := 143) rfl⟩
theorem fs_104 : FldS PP 104 9 .int := ⟨_, _, rfl, List.mem_of_getElem? (i := 145) rfl⟩
theorem fs_107 : FldS PP 107 10 .int := ⟨_, _, rfl, List.mem_of_getElem? (i := 147) rfl⟩
theorem fs_132 : FldS PP 132 3 .long := ⟨_, _, rfl, List.mem_of_getElem? (i := 46) rfl⟩
theorem fs_135 : FldS PP 135 4 .long := ⟨_, _, rfl, List.mem_of_getElem? (i := 48) rfl⟩
theorem fs_138 : FldS PP 138 5 .long := ⟨_, _, rfl, List.mem_of_getElem? (i := 50) rfl⟩
theorem fs_141 : FldS PP 141 6 .boolean := ⟨_, _, rfl, List.mem_of_getElem? (i := 52) rfl⟩
theorem wr_0 (M : Meth) : Wrt PP M 0 := ⟨_, _, _, rfl, Or.inl (List.mem_of_getElem? (i := 33) rfl)⟩
theorem wr_1 (M : Meth) : Wrt PP M 1 := ⟨_, _, _, rfl, Or.inl (List.mem_of_getElem? (i := 35) rfl)⟩
theorem wr_2 (M : Meth) : Wrt PP M 2 := ⟨_, _, _, rfl, Or.inl (List.mem_of_getElem? (i := 45) rfl)⟩
theorem wr_3 (M : Meth) : Wrt PP M 3 := ⟨_, _, _, rfl, Or.inl (List.mem_of_getElem? (i := 47) rfl)⟩
theorem wr_4 (M : Meth) : Wrt PP M 4 := ⟨_, _, _, rfl, Or.inl (List.mem_of_getElem? (i := 49) rfl)⟩
theorem wr_5 (M : Meth) : Wrt PP M 5 := ⟨_, _, _, rfl, Or.inl (List.mem_of_getElem? (i := 51) rfl)⟩
theorem wr_6 (M : Meth) : Wrt PP M 6 := ⟨_, _, _, rfl, Or.inl (List.mem_of_getElem? (i := 53) rfl)⟩
theorem wr_7 (M : Meth) : Wrt PP M 7 := ⟨_, _, _, rfl, Or.inl (List.mem_of_getElem? (i := 142) rfl)⟩
theorem wr_8 (M : Meth) : Wrt PP M 8 := ⟨_, _, _, rfl, Or.inl (List.mem_of_getElem? (i := 144) rfl)⟩
theorem wr_9 (M : Meth) : Wrt PP M 9 := ⟨_, _, _, rfl, Or.inl (List.mem_of_getElem? (i := 146) rfl)⟩
theorem wr_10 (M : Meth) : Wrt PP M 10 := ⟨_, _, _, rfl, Or.inl (List.mem_of_getElem? (i := 148) rfl)⟩
theorem oid_0 : 1 = (cK PP.2 + 1) * 0 + 1 := rfl
theorem oid_1 : 10 = (cK PP.2 + 1) * 1 + 1 := rfl
theorem pl_0 : plainName "PageCompactorY" = true := by first | (simp [plainName, overriddenIn]; done) | decide +kernel
theorem pl_1 : plainName "PageCompactorYL7" = true := by first | (simp [plainName, overriddenIn]; done) | decide +kernel
theorem hm_0 : (mY m0).cls = cN PP.2 := rfl
theorem hn_0 : 0 < mN m0 := by decide
theorem pd_0 : parseMethodDescriptor (mY m0).desc = some ⟨[.int, .int, .int], (some .int)⟩ := by decide +kernel
theorem hm_1 : (mY m1).cls = cN PP.2 := rfl
theorem hn_1 : 0 < mN m1 := by decide
theorem pd_1 : parseMethodDescriptor (mY m1).desc = some ⟨[.int], (some .long)⟩ := by decide +kernel
theorem hm_2 : (mY m2).cls = cN PP.2 := rfl
theorem hn_2 : 0 < mN m2 := by decide
theorem pd_2 : parseMethodDescriptor (mY m2).desc = some ⟨[], none⟩ := by decide +kernel
theorem hm_3 : (mY m3).cls = cN PP.2 := rfl
theorem hn_3 : 0 < mN m3 := by decide
theorem pd_3 : parseMethodDescriptor (mY m3).desc = some ⟨[.int, .int], none⟩ := by decide +kernel
theorem hm_4 : (mY m4).cls = cN PP.2 := rfl
theorem hn_4 : 0 < mN m4 := by decide
theorem pd_4 : parseMethodDescriptor (mY m4).desc = some ⟨[.int, .int], (some .boolean)⟩ := by decide +kernel
theorem hm_5 : (mY m5).cls = cN PP.2 := rfl
theorem hn_5 : 0 < mN m5 := by decide
theorem pd_5 : parseMethodDescriptor (mY m5).desc = some ⟨[.int, .int], (some .int)⟩ := by decide +kernel
theorem hm_6 : (mY m6).cls = cN PP.2 := rfl
theorem hn_6 : 0 < mN m6 := by decide
theorem pd_6 : parseMethodDescriptor (mY m6).desc = some ⟨[.int, .int], (some .int)⟩ := by decide +kernel
theorem hm_7 : (mY m7).cls = cN PP.2 := rfl
theorem hn_7 : 0 < mN m7 := by decide
theorem pd_7 : parseMethodDescriptor (mY m7).desc = some ⟨[.long], (some .int)⟩ := by decide +kernel
theorem hm_8 : (mY m8).cls = cN PP.2 := rfl
theorem hn_8 : 0 < mN m8 := by decide
theorem pd_8 : parseMethodDescriptor (mY m8).desc = some ⟨[.int], (some .boolean)⟩ := by decide +kernel
theorem hm_9 : (mY m9).cls = cN PP.2 := rfl
theorem hn_9 : 0 < mN m9 := by decide
theorem pd_9 : parseMethodDescriptor (mY m9).desc = some ⟨[.int], (some .long)⟩ := by decide +kernel
theorem hm_10 : (mY m10).cls = cN PP.2 := rfl
theorem hn_10 : 0 < mN m10 := by decide
theorem pd_10 : parseMethodDescriptor (mY m10).desc = some ⟨[.int, .int], none⟩ := by decide +kernel
theorem hm_11 : (mY m11).cls = cN PP.2 := rfl
theorem hn_11 : 0 < mN m11 := by decide
theorem pd_11 : parseMethodDescriptor (mY m11).desc = some ⟨[.int, .int], none⟩ := by decide +kernel
theorem hm_12 : (mY m12).cls = cN PP.2 := rfl
theorem hn_12 : 0 < mN m12 := by decide
theorem pd_12 : parseMethodDescriptor (mY m12).desc = some ⟨[.int, .int], none⟩ := by decide +kernel
theorem hm_13 : (mY m13).cls = cN PP.2 := rfl
theorem hn_13 : 0 < mN m13 := by decide
theorem pd_13 : parseMethodDescriptor (mY m13).desc = some ⟨[.int, .int, .int], (some .int)⟩ := by decide +kernel
theorem hm_14 : (mY m14).cls = cN PP.2 := rfl
theorem hn_14 : 0 < mN m14 := by decide
theorem pd_14 : parseMethodDescriptor (mY m14).desc = some ⟨[.int, .int, .int, .int], (some .int)⟩ := by decide +kernel
theorem hm_15 : (mY m15).cls = cN PP.2 := rfl
theorem hn_15 : 0 < mN m15 := by decide
theorem pd_15 : parseMethodDescriptor (mY m15).desc = some ⟨[.int], (some .int)⟩ := by decide +kernel
theorem hm_16 : (mY m16).cls = cN PP.2 := rfl
theorem hn_16 : 0 < mN m16 := by decide
theorem pd_16 : parseMethodDescriptor (mY m16).desc = some ⟨[.int], (some .int)⟩ := by decide +kernel
theorem hm_17 : (mY m17).cls = cN PP.2 := rfl
theorem hn_17 : 0 < mN m17 := by decide
theorem pd_17 : parseMethodDescriptor (mY m17).desc = some ⟨[.int], none⟩ := by decide +kernel
theorem hm_18 : (mY m18).cls = cN PP.2 := rfl
theorem hn_18 : 0 < mN m18 := by decide
theorem pd_18 : parseMethodDescriptor (mY m18).desc = some ⟨[.int, .int], (some .int)⟩ := by decide +kernel
theorem hm_19 : (mY m19).cls = cN PP.2 := rfl
theorem hn_19 : 0 < mN m19 := by decide
theorem pd_19 : parseMethodDescriptor (mY m19).desc = some ⟨[.int, .int], (some .int)⟩ := by decide +kernel
theorem hm_20 : (mY m20).cls = cN PP.2 := rfl
theorem hn_20 : 0 < mN m20 := by decide
theorem pd_20 : parseMethodDescriptor (mY m20).desc = some ⟨[.int, .int, .int], (some .boolean)⟩ := by decide +kernel
theorem hm_21 : (mY m21).cls = cN PP.2 := rfl
theorem hn_21 : 0 < mN m21 := by decide
theorem pd_21 : parseMethodDescriptor (mY m21).desc = some ⟨[.int], (some .boolean)⟩ := by decide +kernel
theorem hm_22 : (mY m22).cls = cN PP.2 := rfl
theorem hn_22 : 0 < mN m22 := by decide
theorem pd_22 : parseMethodDescriptor (mY m22).desc = some ⟨[.int], (some .boolean)⟩ := by decide +kernel
theorem hm_23 : (mY m23).cls = cN PP.2 := rfl
theorem hn_23 : 0 < mN m23 := by decide
theorem pd_23 : parseMethodDescriptor (mY m23).desc = some ⟨[.int], (some .long)⟩ := by decide +kernel
theorem hm_24 : (mY m24).cls = cN PP.2 := rfl
theorem hn_24 : 0 < mN m24 := by decide
theorem pd_24 : parseMethodDescriptor (mY m24).desc = some ⟨[], none⟩ := by decide +kernel
theorem hm_25 : (mY m25).cls = cN PP.2 := rfl
theorem hn_25 : 0 < mN m25 := by decide
theorem pd_25 : parseMethodDescriptor (mY m25).desc = some ⟨[.int], (some .long)⟩ := by decide +kernel
theorem hm_26 : (mY m26).cls = cN PP.2 := rfl
theorem hn_26 : 0 < mN m26 := by decide
theorem pd_26 : parseMethodDescriptor (mY m26).desc = some ⟨[.int], none⟩ := by decide +kernel
theorem hm_27 : (mY m27).cls = cN PP.2 := rfl
theorem hn_27 : 0 < mN m27 := by decide
theorem pd_27 : parseMethodDescriptor (mY m27).desc = some ⟨[.int, .int], none⟩ := by decide +kernel
theorem hm_28 : (mY m28).cls = cN PP.2 := rfl
theorem hn_28 : 0 < mN m28 := by decide
theorem pd_28 : parseMethodDescriptor (mY m28).desc = some ⟨[.int], (some .int)⟩ := by decide +kernel
theorem hm_29 : (mY m29).cls = cN PP.2 := rfl
theorem hn_29 : 0 < mN m29 := by decide
theorem pd_29 : parseMethodDescriptor (mY m29).desc = some ⟨[.int], (some .boolean)⟩ := by decide +kernel
theorem hm_30 : (mY m30).cls = cN PP.2 := rfl
theorem hn_30 : 0 < mN m30 := by decide
theorem pd_30 : parseMethodDescriptor (mY m30).desc = some ⟨[.int, .int], (some .long)⟩ := by decide +kernel
theorem hm_31 : (mY m31).cls = cN PP.2 := rfl
theorem hn_31 : 0 < mN m31 := by decide
theorem pd_31 : parseMethodDescriptor (mY m31).desc = some ⟨[], none⟩ := by decide +kernel
theorem hm_32 : (mY m32).cls = cN PP.2 := rfl
theorem hn_32 : 0 < mN m32 := by decide
theorem pd_32 : parseMethodDescriptor (mY m32).desc = some ⟨[.long], (some .int)⟩ := by decide +kernel
theorem hm_33 : (mY m33).cls = cN PP.2 := rfl
theorem hn_33 : 0 < mN m33 := by decide
theorem pd_33 : parseMethodDescriptor (mY m33).desc = some ⟨[], none⟩ := by decide +kernel
theorem hm_34 : (mY m34).cls = cN PP.2 := rfl
theorem hn_34 : 0 < mN m34 := by decide
theorem pd_34 : parseMethodDescriptor (mY m34).desc = some ⟨[], (some .boolean)⟩ := by decide +kernel
theorem hm_35 : (mY m35).cls = cN PP.2 := rfl
theorem hn_35 : 0 < mN m35 := by decide
theorem pd_35 : parseMethodDescriptor (mY m35).desc = some ⟨[.int, .int], none⟩ := by decide +kernel
theorem hm_36 : (mY m36).cls = cN PP.2 := rfl
theorem hn_36 : 0 < mN m36 := by decide
theorem pd_36 : parseMethodDescriptor (mY m36).desc = some ⟨[.int, .int], none⟩ := by decide +kernel
theorem hm_37 : (mY m37).cls = cN PP.2 := rfl
theorem hn_37 : 0 < mN m37 := by decide
theorem pd_37 : parseMethodDescriptor (mY m37).desc = some ⟨[.int], (some .int)⟩ := by decide +kernel
theorem hn_38 : 0 < mN m38 := by decide
theorem pd_38 : parseMethodDescriptor (mY m38).desc = some ⟨[.object "PageCompactorY", .int, .int, .int, .int], none⟩ := by decide +kernel
theorem hm_39 : (mY m39).cls = cN PP.2 := rfl
theorem hn_39 : 0 < mN m39 := by decide
theorem pd_39 : parseMethodDescriptor (mY m39).desc = some ⟨[.long], (some .int)⟩ := by decide +kernel
theorem hm_40 : (mY m40).cls = cN PP.2 := rfl
theorem hn_40 : 0 < mN m40 := by decide
theorem pd_40 : parseMethodDescriptor (mY m40).desc = some ⟨[], (some .int)⟩ := by decide +kernel
theorem hm_41 : (mY m41).cls = cN PP.2 := rfl
theorem hn_41 : 0 < mN m41 := by decide
theorem pd_41 : parseMethodDescriptor (mY m41).desc = some ⟨[.int, .int], (some .int)⟩ := by decide +kernel
theorem hm_42 : (mY m42).cls = cN PP.2 := rfl
theorem hn_42 : 0 < mN m42 := by decide
theorem pd_42 : parseMethodDescriptor (mY m42).desc = some ⟨[.int, .int], (some .int)⟩ := by decide +kernel
theorem hm_43 : (mY m43).cls = cN PP.2 := rfl
theorem hn_43 : 0 < mN m43 := by decide
theorem pd_43 : parseMethodDescriptor (mY m43).desc = some ⟨[.int], (some .int)⟩ := by decide +kernel
theorem hm_44 : (mY m44).cls = cN PP.2 := rfl
theorem hn_44 : 0 < mN m44 := by decide
theorem pd_44 : parseMethodDescriptor (mY m44).desc = some ⟨[.int], (some .int)⟩ := by decide +kernel
theorem hm_45 : (mY m45).cls = cN PP.2 := rfl
theorem hn_45 : 0 < mN m45 := by decide
theorem pd_45 : parseMethodDescriptor (mY m45).desc = some ⟨[.int], (some .int)⟩ := by decide +kernel
theorem hn_46 : 0 < mN m46 := by decide
theorem d0_0 : decode (mB m0) 0 = .ok (.iload_n 1, 1) := by decide +kernel
theorem d0_1 : decode (mB m0) 1 = .ok (.iload_n 2, 1) := by decide +kernel
theorem d0_2 : decode (mB m0) 2 = .ok (.if_icmp .ge 5, 3) := by decide +kernel
theorem d0_5 : decode (mB m0) 5 = .ok (.iload_n 2, 1) := by decide +kernel
theorem d0_6 : decode (mB m0) 6 = .ok (.ireturn, 1) := by decide +kernel
theorem d0_7 : decode (mB m0) 7 = .ok (.iload_n 1, 1) := by decide +kernel
theorem d0_8 : decode (mB m0) 8 = .ok (.iload_n 3, 1) := by decide +kernel
theorem d0_9 : decode (mB m0) 9 = .ok (.if_icmp .le 5, 3) := by decide +kernel
theorem d0_12 : decode (mB m0) 12 = .ok (.iload_n 3, 1) := by decide +kernel
theorem d0_13 : decode (mB m0) 13 = .ok (.ireturn, 1) := by decide +kernel
theorem d0_14 : decode (mB m0) 14 = .ok (.iload_n 1, 1) := by decide +kernel
theorem d0_15 : decode (mB m0) 15 = .ok (.ireturn, 1) := by decide +kernel
theorem d1_0 : decode (mB m1) 0 = .ok (.iload_n 1, 1) := by decide +kernel
theorem d1_1 : decode (mB m1) 1 = .ok (.ifCond .gt 5, 3) := by decide +kernel
theorem d1_4 : decode (mB m1) 4 = .ok (.lconst 0, 1) := by decide +kernel
theorem d1_5 : decode (mB m1) 5 = .ok (.lreturn, 1) := by decide +kernel
theorem d1_6 : decode (mB m1) 6 = .ok (.iload_n 1, 1) := by decide +kernel
theorem d1_7 : decode (mB m1) 7 = .ok (.bipush 64, 2) := by decide +kernel
theorem d1_9 : decode (mB m1) 9 = .ok (.if_icmp .lt 7, 3) := by decide +kernel
theorem d1_12 : decode (mB m1) 12 = .ok (.ldc2_w 148, 3) := by decide +kernel
theorem d1_15 : decode (mB m1) 15 = .ok (.lreturn, 1) := by decide +kernel
theorem d1_16 : decode (mB m1) 16 = .ok (.lconst 1, 1) := by decide +kernel
theorem d1_17 : decode (mB m1) 17 = .ok (.iload_n 1, 1) := by decide +kernel
theorem d1_18 : decode (mB m1) 18 = .ok (.lshl, 1) := by decide +kernel
theorem d1_19 : decode (mB m1) 19 = .ok (.lconst 1, 1) := by decide +kernel
theorem d1_20 : decode (mB m1) 20 = .ok (.lsub, 1) := by decide +kernel
theorem d1_21 : decode (mB m1) 21 = .ok (.lreturn, 1) := by decide +kernel
theorem d2_0 : decode (mB m2) 0 = .ok (.iconst 0, 1) := by decide +kernel
theorem d2_1 : decode (mB m2) 1 = .ok (.istore_n 1, 1) := by decide +kernel
theorem d2_2 : decode (mB m2) 2 = .ok (.iload_n 1, 1) := by decide +kernel
theorem d2_3 : decode (mB m2) 3 = .ok (.bipush 64, 2) := by decide +kernel
theorem d2_5 : decode (mB m2) 5 = .ok (.if_icmp .ge 58, 3) := by decide +kernel
theorem d2_8 : decode (mB m2) 8 = .ok (.aload_n 0, 1) := by decide +kernel
theorem d2_9 : decode (mB m2) 9 = .ok (.getfield 7, 3) := by decide +kernel
theorem d2_12 : decode (mB m2) 12 = .ok (.iload_n 1, 1) := by decide +kernel
theorem d2_13 : decode (mB m2) 13 = .ok (.iconst 0, 1) := by decide +kernel
theorem d2_14 : decode (mB m2) 14 = .ok (.bastore, 1) := by decide +kernel
theorem d2_15 : decode (mB m2) 15 = .ok (.aload_n 0, 1) := by decide +kernel
theorem d2_16 : decode (mB m2) 16 = .ok (.getfield 13, 3) := by decide +kernel
theorem d2_19 : decode (mB m2) 19 = .ok (.iload_n 1, 1) := by decide +kernel
theorem d2_20 : decode (mB m2) 20 = .ok (.iconst 0, 1) := by decide +kernel
theorem d2_21 : decode (mB m2) 21 = .ok (.iastore, 1) := by decide +kernel
theorem d2_22 : decode (mB m2) 22 = .ok (.aload_n 0, 1) := by decide +kernel
theorem d2_23 : decode (mB m2) 23 = .ok (.getfield 17, 3) := by decide +kernel
theorem d2_26 : decode (mB m2) 26 = .ok (.iload_n 1, 1) := by decide +kernel
theorem d2_27 : decode (mB m2) 27 = .ok (.iconst 0, 1) := by decide +kernel
theorem d2_28 : decode (mB m2) 28 = .ok (.iastore, 1) := by decide +kernel
theorem d2_29 : decode (mB m2) 29 = .ok (.aload_n 0, 1) := by decide +kernel
theorem d2_30 : decode (mB m2) 30 = .ok (.getfield 20, 3) := by decide +kernel
theorem d2_33 : decode (mB m2) 33 = .ok (.iload_n 1, 1) := by decide +kernel
theorem d2_34 : decode (mB m2) 34 = .ok (.iconst (-1), 1) := by decide +kernel
theorem d2_35 : decode (mB m2) 35 = .ok (.iastore, 1) := by decide +kernel
theorem d2_36 : decode (mB m2) 36 = .ok (.aload_n 0, 1) := by decide +kernel
theorem d2_37 : decode (mB m2) 37 = .ok (.getfield 23, 3) := by decide +kernel
theorem d2_40 : decode (mB m2) 40 = .ok (.iload_n 1, 1) := by decide +kernel
theorem d2_41 : decode (mB m2) 41 = .ok (.iconst (-1), 1) := by decide +kernel
theorem d2_42 : decode (mB m2) 42 = .ok (.iastore, 1) := by decide +kernel
theorem d2_43 : decode (mB m2) 43 = .ok (.aload_n 0, 1) := by decide +kernel
theorem d2_44 : decode (mB m2) 44 = .ok (.getfield 26, 3) := by decide +kernel
theorem d2_47 : decode (mB m2) 47 = .ok (.iload_n 1, 1) := by decide +kernel
theorem d2_48 : decode (mB m2) 48 = .ok (.iconst (-1), 1) := by decide +kernel
theorem d2_49 : decode (mB m2) 49 = .ok (.iastore, 1) := by decide +kernel
theorem d2_50 : decode (mB m2) 50 = .ok (.aload_n 0, 1) := by decide +kernel
theorem d2_51 : decode (mB m2) 51 = .ok (.getfield 29, 3) := by decide +kernel
theorem d2_54 : decode (mB m2) 54 = .ok (.iload_n 1, 1) := by decide +kernel
theorem d2_55 : decode (mB m2) 55 = .ok (.iconst (-1), 1) := by decide +kernel
theorem d2_56 : decode (mB m2) 56 = .ok (.iastore, 1) := by decide +kernel
theorem d2_57 : decode (mB m2) 57 = .ok (.iinc 1 1, 3) := by decide +kernel
theorem d2_60 : decode (mB m2) 60 = .ok (.goto (-58), 3) := by decide +kernel
theorem d2_63 : decode (mB m2) 63 = .ok (.aload_n 0, 1) := by decide +kernel
theorem d2_64 : decode (mB m2) 64 = .ok (.aload_n 0, 1) := by decide +kernel
theorem d2_65 : decode (mB m2) 65 = .ok (.aload_n 0, 1) := by decide +kernel
theorem d2_66 : decode (mB m2) 66 = .ok (.getfield 40, 3) := by decide +kernel
theorem d2_69 : decode (mB m2) 69 = .ok (.invokevirtual 129, 3) := by decide +kernel
theorem d2_72 : decode (mB m2) 72 = .ok (.putfield 54, 3) := by decide +kernel
theorem d2_75 : decode (mB m2) 75 = .ok (.aload_n 0, 1) := by decide +kernel
theorem d2_76 : decode (mB m2) 76 = .ok (.lconst 0, 1) := by decide +kernel
theorem d2_77 : decode (mB m2) 77 = .ok (.putfield 132, 3) := by decide +kernel
theorem d2_80 : decode (mB m2) 80 = .ok (.aload_n 0, 1) := by decide +kernel
theorem d2_81 : decode (mB m2) 81 = .ok (.lconst 0, 1) := by decide +kernel
theorem d2_82 : decode (mB m2) 82 = .ok (.putfield 135, 3) := by decide +kernel
theorem d2_85 : decode (mB m2) 85 = .ok (.aload_n 0, 1) := by decide +kernel
theorem d2_86 : decode (mB m2) 86 = .ok (.lconst 0, 1) := by decide +kernel
theorem d2_87 : decode (mB m2) 87 = .ok (.putfield 138, 3) := by decide +kernel
theorem d2_90 : decode (mB m2) 90 = .ok (.aload_n 0, 1) := by decide +kernel
theorem d2_91 : decode (mB m2) 91 = .ok (.iconst 1, 1) := by decide +kernel
theorem d2_92 : decode (mB m2) 92 = .ok (.putfield 141, 3) := by decide +kernel
theorem d2_95 : decode (mB m2) 95 = .ok (.return_, 1) := by decide +kernel
theorem d3_0 : decode (mB m3) 0 = .ok (.aload_n 0, 1) := by decide +kernel
theorem d3_1 : decode (mB m3) 1 = .ok (.invokespecial 1, 3) := by decide +kernel
theorem d3_4 : decode (mB m3) 4 = .ok (.aload_n 0, 1) := by decide +kernel
theorem d3_5 : decode (mB m3) 5 = .ok (.bipush 64, 2) := by decide +kernel
theorem d3_7 : decode (mB m3) 7 = .ok (.newarray .byte, 2) := by decide +kernel
theorem d3_9 : decode (mB m3) 9 = .ok (.putfield 7, 3) := by decide +kernel
theorem d3_12 : decode (mB m3) 12 = .ok (.aload_n 0, 1) := by decide +kernel
theorem d3_13 : decode (mB m3) 13 = .ok (.bipush 64, 2) := by decide +kernel
theorem d3_15 : decode (mB m3) 15 = .ok (.newarray .int, 2) := by decide +kernel
theorem d3_17 : decode (mB m3) 17 = .ok (.putfield 13, 3) := by decide +kernel
theorem d3_20 : decode (mB m3) 20 = .ok (.aload_n 0, 1) := by decide +kernel
theorem d3_21 : decode (mB m3) 21 = .ok (.bipush 64, 2) := by decide +kernel
theorem d3_23 : decode (mB m3) 23 = .ok (.newarray .int, 2) := by decide +kernel
theorem d3_25 : decode (mB m3) 25 = .ok (.putfield 17, 3) := by decide +kernel
theorem d3_28 : decode (mB m3) 28 = .ok (.aload_n 0, 1) := by decide +kernel
theorem d3_29 : decode (mB m3) 29 = .ok (.bipush 64, 2) := by decide +kernel
theorem d3_31 : decode (mB m3) 31 = .ok (.newarray .int, 2) := by decide +kernel
theorem d3_33 : decode (mB m3) 33 = .ok (.putfield 20, 3) := by decide +kernel
theorem d3_36 : decode (mB m3) 36 = .ok (.aload_n 0, 1) := by decide +kernel
theorem d3_37 : decode (mB m3) 37 = .ok (.bipush 64, 2) := by decide +kernel
theorem d3_39 : decode (mB m3) 39 = .ok (.newarray .int, 2) := by decide +kernel
theorem d3_41 : decode (mB m3) 41 = .ok (.putfield 23, 3) := by decide +kernel
theorem d3_44 : decode (mB m3) 44 = .ok (.aload_n 0, 1) := by decide +kernel
theorem d3_45 : decode (mB m3) 45 = .ok (.bipush 64, 2) := by decide +kernel
theorem d3_47 : decode (mB m3) 47 = .ok (.newarray .int, 2) := by decide +kernel
theorem d3_49 : decode (mB m3) 49 = .ok (.putfield 26, 3) := by decide +kernel
theorem d3_52 : decode (mB m3) 52 = .ok (.aload_n 0, 1) := by decide +kernel
theorem d3_53 : decode (mB m3) 53 = .ok (.bipush 64, 2) := by decide +kernel
theorem d3_55 : decode (mB m3) 55 = .ok (.newarray .int, 2) := by decide +kernel
theorem d3_57 : decode (mB m3) 57 = .ok (.putfield 29, 3) := by decide +kernel
theorem d3_60 : decode (mB m3) 60 = .ok (.aload_n 0, 1) := by decide +kernel
theorem d3_61 : decode (mB m3) 61 = .ok (.bipush 7, 2) := by decide +kernel
theorem d3_63 : decode (mB m3) 63 = .ok (.newarray .long, 2) := by decide +kernel
theorem d3_65 : decode (mB m3) 65 = .ok (.putfield 32, 3) := by decide +kernel
theorem d3_68 : decode (mB m3) 68 = .ok (.aload_n 0, 1) := by decide +kernel
theorem d3_69 : decode (mB m3) 69 = .ok (.aload_n 0, 1) := by decide +kernel
theorem d3_70 : decode (mB m3) 70 = .ok (.iload_n 1, 1) := by decide +kernel
theorem d3_71 : decode (mB m3) 71 = .ok (.bipush 8, 2) := by decide +kernel
theorem d3_73 : decode (mB m3) 73 = .ok (.bipush 64, 2) := by decide +kernel
theorem d3_75 : decode (mB m3) 75 = .ok (.invokevirtual 36, 3) := by decide +kernel
theorem d3_78 : decode (mB m3) 78 = .ok (.putfield 40, 3) := by decide +kernel
theorem d3_81 : decode (mB m3) 81 = .ok (.aload_n 0, 1) := by decide +kernel
theorem d3_82 : decode (mB m3) 82 = .ok (.aload_n 0, 1) := by decide +kernel
theorem d3_83 : decode (mB m3) 83 = .ok (.iload_n 2, 1) := by decide +kernel
theorem d3_84 : decode (mB m3) 84 = .ok (.iconst 4, 1) := by decide +kernel
theorem d3_85 : decode (mB m3) 85 = .ok (.bipush 16, 2) := by decide +kernel
theorem d3_87 : decode (mB m3) 87 = .ok (.invokevirtual 36, 3) := by decide +kernel
theorem d3_90 : decode (mB m3) 90 = .ok (.putfield 44, 3) := by decide +kernel
theorem d3_93 : decode (mB m3) 93 = .ok (.aload_n 0, 1) := by decide +kernel
theorem d3_94 : decode (mB m3) 94 = .ok (.invokevirtual 47, 3) := by decide +kernel
theorem d3_97 : decode (mB m3) 97 = .ok (.return_, 1) := by decide +kernel
theorem d4_0 : decode (mB m4) 0 = .ok (.iload_n 1, 1) := by decide +kernel
theorem d4_1 : decode (mB m4) 1 = .ok (.ifCond .lt 8, 3) := by decide +kernel
theorem d4_4 : decode (mB m4) 4 = .ok (.iload_n 1, 1) := by decide +kernel
theorem d4_5 : decode (mB m4) 5 = .ok (.iconst 4, 1) := by decide +kernel
theorem d4_6 : decode (mB m4) 6 = .ok (.if_icmp .lt 5, 3) := by decide +kernel
theorem d4_9 : decode (mB m4) 9 = .ok (.iconst 0, 1) := by decide +kernel
theorem d4_10 : decode (mB m4) 10 = .ok (.ireturn, 1) := by decide +kernel
theorem d4_11 : decode (mB m4) 11 = .ok (.iload_n 2, 1) := by decide +kernel
theorem d4_12 : decode (mB m4) 12 = .ok (.ifCond .lt 15, 3) := by decide +kernel
theorem d4_15 : decode (mB m4) 15 = .ok (.iload_n 2, 1) := by decide +kernel
theorem d4_16 : decode (mB m4) 16 = .ok (.aload_n 0, 1) := by decide +kernel
theorem d4_17 : decode (mB m4) 17 = .ok (.getfield 44, 3) := by decide +kernel
theorem d4_20 : decode (mB m4) 20 = .ok (.if_icmp .ge 7, 3) := by decide +kernel
theorem d4_23 : decode (mB m4) 23 = .ok (.iconst 1, 1) := by decide +kernel
theorem d4_24 : decode (mB m4) 24 = .ok (.goto 4, 3) := by decide +kernel
theorem d4_27 : decode (mB m4) 27 = .ok (.iconst 0, 1) := by decide +kernel
theorem d4_28 : decode (mB m4) 28 = .ok (.ireturn, 1) := by decide +kernel
theorem d5_0 : decode (mB m5) 0 = .ok (.iload_n 1, 1) := by decide +kernel
theorem d5_1 : decode (mB m5) 1 = .ok (.bipush 16, 2) := by decide +kernel
theorem d5_3 : decode (mB m5) 3 = .ok (.imul, 1) := by decide +kernel
theorem d5_4 : decode (mB m5) 4 = .ok (.iload_n 2, 1) := by decide +kernel
theorem d5_5 : decode (mB m5) 5 = .ok (.iadd, 1) := by decide +kernel
theorem d5_6 : decode (mB m5) 6 = .ok (.ireturn, 1) := by decide +kernel
theorem d6_0 : decode (mB m6) 0 = .ok (.aload_n 0, 1) := by decide +kernel
theorem d6_1 : decode (mB m6) 1 = .ok (.iload_n 1, 1) := by decide +kernel
theorem d6_2 : decode (mB m6) 2 = .ok (.iload_n 2, 1) := by decide +kernel
theorem d6_3 : decode (mB m6) 3 = .ok (.invokevirtual 76, 3) := by decide +kernel
theorem d6_6 : decode (mB m6) 6 = .ok (.ifCond .ne 5, 3) := by decide +kernel
theorem d6_9 : decode (mB m6) 9 = .ok (.iconst (-1), 1) := by decide +kernel
theorem d6_10 : decode (mB m6) 10 = .ok (.ireturn, 1) := by decide +kernel
theorem d6_11 : decode (mB m6) 11 = .ok (.aload_n 0, 1) := by decide +kernel
theorem d6_12 : decode (mB m6) 12 = .ok (.iload_n 1, 1) := by decide +kernel
theorem d6_13 : decode (mB m6) 13 = .ok (.iload_n 2, 1) := by decide +kernel
theorem d6_14 : decode (mB m6) 14 = .ok (.invokevirtual 66, 3) := by decide +kernel
theorem d6_17 : decode (mB m6) 17 = .ok (.istore_n 3, 1) := by decide +kernel
theorem d6_18 : decode (mB m6) 18 = .ok (.aload_n 0, 1) := by decide +kernel
theorem d6_19 : decode (mB m6) 19 = .ok (.getfield 20, 3) := by decide +kernel
theorem d6_22 : decode (mB m6) 22 = .ok (.iload_n 3, 1) := by decide +kernel
theorem d6_23 : decode (mB m6) 23 = .ok (.iaload, 1) := by decide +kernel
theorem d6_24 : decode (mB m6) 24 = .ok (.ifCond .lt 6, 3) := by decide +kernel
theorem d6_27 : decode (mB m6) 27 = .ok (.bipush (-2), 2) := by decide +kernel
theorem d6_29 : decode (mB m6) 29 = .ok (.ireturn, 1) := by decide +kernel
theorem d6_30 : decode (mB m6) 30 = .ok (.iconst 0, 1) := by decide +kernel
theorem d6_31 : decode (mB m6) 31 = .ok (.ireturn, 1) := by decide +kernel
theorem d7_0 : decode (mB m7) 0 = .ok (.lload_n 1, 1) := by decide +kernel
theorem d7_1 : decode (mB m7) 1 = .ok (.lconst 0, 1) := by decide +kernel
theorem d7_2 : decode (mB m7) 2 = .ok (.lcmp, 1) := by decide +kernel
theorem d7_3 : decode (mB m7) 3 = .ok (.ifCond .ne 5, 3) := by decide +kernel
theorem d7_6 : decode (mB m7) 6 = .ok (.iconst (-1), 1) := by decide +kernel
theorem d7_7 : decode (mB m7) 7 = .ok (.ireturn, 1) := by decide +kernel
theorem d7_8 : decode (mB m7) 8 = .ok (.iconst 0, 1) := by decide +kernel
theorem d7_9 : decode (mB m7) 9 = .ok (.istore_n 3, 1) := by decide +kernel
theorem d7_10 : decode (mB m7) 10 = .ok (.lload_n 1, 1) := by decide +kernel
theorem d7_11 : decode (mB m7) 11 = .ok (.lstore 4, 2) := by decide +kernel
theorem d7_13 : decode (mB m7) 13 = .ok (.lload 4, 2) := by decide +kernel
theorem d7_15 : decode (mB m7) 15 = .ok (.ldc2_w 182, 3) := by decide +kernel
theorem d7_18 : decode (mB m7) 18 = .ok (.land, 1) := by decide +kernel
theorem d7_19 : decode (mB m7) 19 = .ok (.lconst 0, 1) := by decide +kernel
theorem d7_20 : decode (mB m7) 20 = .ok (.lcmp, 1) := by decide +kernel
theorem d7_21 : decode (mB m7) 21 = .ok (.ifCond .ne 13, 3) := by decide +kernel
theorem d7_24 : decode (mB m7) 24 = .ok (.iinc 3 32, 3) := by decide +kernel
theorem d7_27 : decode (mB m7) 27 = .ok (.lload 4, 2) := by decide +kernel
theorem d7_29 : decode (mB m7) 29 = .ok (.bipush 32, 2) := by decide +kernel
theorem d7_31 : decode (mB m7) 31 = .ok (.lushr, 1) := by decide +kernel
theorem d7_32 : decode (mB m7) 32 = .ok (.lstore 4, 2) := by decide +kernel
theorem d7_34 : decode (mB m7) 34 = .ok (.lload 4, 2) := by decide +kernel
theorem d7_36 : decode (mB m7) 36 = .ok (.ldc2_w 184, 3) := by decide +kernel
theorem d7_39 : decode (mB m7) 39 = .ok (.land, 1) := by decide +kernel
theorem d7_40 : decode (mB m7) 40 = .ok (.lconst 0, 1) := by decide +kernel
theorem d7_41 : decode (mB m7) 41 = .ok (.lcmp, 1) := by decide +kernel
theorem d7_42 : decode (mB m7) 42 = .ok (.ifCond .ne 13, 3) := by decide +kernel
theorem d7_45 : decode (mB m7) 45 = .ok (.iinc 3 16, 3) := by decide +kernel
theorem d7_48 : decode (mB m7) 48 = .ok (.lload 4, 2) := by decide +kernel
theorem d7_50 : decode (mB m7) 50 = .ok (.bipush 16, 2) := by decide +kernel
theorem d7_52 : decode (mB m7) 52 = .ok (.lushr, 1) := by decide +kernel
theorem d7_53 : decode (mB m7) 53 = .ok (.lstore 4, 2) := by decide +kernel
theorem d7_55 : decode (mB m7) 55 = .ok (.lload 4, 2) := by decide +kernel
theorem d7_57 : decode (mB m7) 57 = .ok (.ldc2_w 186, 3) := by decide +kernel
theorem d7_60 : decode (mB m7) 60 = .ok (.land, 1) := by decide +kernel
theorem d7_61 : decode (mB m7) 61 = .ok (.lconst 0, 1) := by decide +kernel
theorem d7_62 : decode (mB m7) 62 = .ok (.lcmp, 1) := by decide +kernel
theorem d7_63 : decode (mB m7) 63 = .ok (.ifCond .ne 13, 3) := by decide +kernel
theorem d7_66 : decode (mB m7) 66 = .ok (.iinc 3 8, 3) := by decide +kernel
theorem d7_69 : decode (mB m7) 69 = .ok (.lload 4, 2) := by decide +kernel
theorem d7_71 : decode (mB m7) 71 = .ok (.bipush 8, 2) := by decide +kernel
theorem d7_73 : decode (mB m7) 73 = .ok (.lushr, 1) := by decide +kernel
theorem d7_74 : decode (mB m7) 74 = .ok (.lstore 4, 2) := by decide +kernel
theorem d7_76 : decode (mB m7) 76 = .ok (.lload 4, 2) := by decide +kernel
theorem d7_78 : decode (mB m7) 78 = .ok (.ldc2_w 188, 3) := by decide +kernel
theorem d7_81 : decode (mB m7) 81 = .ok (.land, 1) := by decide +kernel
theorem d7_82 : decode (mB m7) 82 = .ok (.lconst 0, 1) := by decide +kernel
theorem d7_83 : decode (mB m7) 83 = .ok (.lcmp, 1) := by decide +kernel
theorem d7_84 : decode (mB m7) 84 = .ok (.ifCond .ne 12, 3) := by decide +kernel
theorem d7_87 : decode (mB m7) 87 = .ok (.iinc 3 4, 3) := by decide +kernel
theorem d7_90 : decode (mB m7) 90 = .ok (.lload 4, 2) := by decide +kernel
theorem d7_92 : decode (mB m7) 92 = .ok (.iconst 4, 1) := by decide +kernel
theorem d7_93 : decode (mB m7) 93 = .ok (.lushr, 1) := by decide +kernel
theorem d7_94 : decode (mB m7) 94 = .ok (.lstore 4, 2) := by decide +kernel
theorem d7_96 : decode (mB m7) 96 = .ok (.lload 4, 2) := by decide +kernel
theorem d7_98 : decode (mB m7) 98 = .ok (.ldc2_w 190, 3) := by decide +kernel
theorem d7_101 : decode (mB m7) 101 = .ok (.land, 1) := by decide +kernel
theorem d7_102 : decode (mB m7) 102 = .ok (.lconst 0, 1) := by decide +kernel
theorem d7_103 : decode (mB m7) 103 = .ok (.lcmp, 1) := by decide +kernel
theorem d7_104 : decode (mB m7) 104 = .ok (.ifCond .ne 12, 3) := by decide +kernel
theorem d7_107 : decode (mB m7) 107 = .ok (.iinc 3 2, 3) := by decide +kernel
theorem d7_110 : decode (mB m7) 110 = .ok (.lload 4, 2) := by decide +kernel
theorem d7_112 : decode (mB m7) 112 = .ok (.iconst 2, 1) := by decide +kernel
theorem d7_113 : decode (mB m7) 113 = .ok (.lushr, 1) := by decide +kernel
theorem d7_114 : decode (mB m7) 114 = .ok (.lstore 4, 2) := by decide +kernel
theorem d7_116 : decode (mB m7) 116 = .ok (.lload 4, 2) := by decide +kernel
theorem d7_118 : decode (mB m7) 118 = .ok (.lconst 1, 1) := by decide +kernel
theorem d7_119 : decode (mB m7) 119 = .ok (.land, 1) := by decide +kernel
theorem d7_120 : decode (mB m7) 120 = .ok (.lconst 0, 1) := by decide +kernel
theorem d7_121 : decode (mB m7) 121 = .ok (.lcmp, 1) := by decide +kernel
theorem d7_122 : decode (mB m7) 122 = .ok (.ifCond .ne 6, 3) := by decide +kernel
theorem d7_125 : decode (mB m7) 125 = .ok (.iinc 3 1, 3) := by decide +kernel
theorem d7_128 : decode (mB m7) 128 = .ok (.iload_n 3, 1) := by decide +kernel
theorem d7_129 : decode (mB m7) 129 = .ok (.ireturn, 1) := by decide +kernel
theorem d8_0 : decode (mB m8) 0 = .ok (.iload_n 1, 1) := by decide +kernel
theorem d8_1 : decode (mB m8) 1 = .ok (.ifCond .lt 15, 3) := by decide +kernel
theorem d8_4 : decode (mB m8) 4 = .ok (.iload_n 1, 1) := by decide +kernel
theorem d8_5 : decode (mB m8) 5 = .ok (.aload_n 0, 1) := by decide +kernel
theorem d8_6 : decode (mB m8) 6 = .ok (.getfield 40, 3) := by decide +kernel
theorem d8_9 : decode (mB m8) 9 = .ok (.if_icmp .ge 7, 3) := by decide +kernel
theorem d8_12 : decode (mB m8) 12 = .ok (.iconst 1, 1) := by decide +kernel
theorem d8_13 : decode (mB m8) 13 = .ok (.goto 4, 3) := by decide +kernel
theorem d8_16 : decode (mB m8) 16 = .ok (.iconst 0, 1) := by decide +kernel
theorem d8_17 : decode (mB m8) 17 = .ok (.ireturn, 1) := by decide +kernel
theorem d9_0 : decode (mB m9) 0 = .ok (.iload_n 1, 1) := by decide +kernel
theorem d9_1 : decode (mB m9) 1 = .ok (.ifCond .lt 9, 3) := by decide +kernel
theorem d9_4 : decode (mB m9) 4 = .ok (.iload_n 1, 1) := by decide +kernel
theorem d9_5 : decode (mB m9) 5 = .ok (.bipush 63, 2) := by decide +kernel
theorem d9_7 : decode (mB m9) 7 = .ok (.if_icmp .le 5, 3) := by decide +kernel
theorem d9_10 : decode (mB m9) 10 = .ok (.lconst 0, 1) := by decide +kernel
theorem d9_11 : decode (mB m9) 11 = .ok (.lreturn, 1) := by decide +kernel
theorem d9_12 : decode (mB m9) 12 = .ok (.lconst 1, 1) := by decide +kernel
theorem d9_13 : decode (mB m9) 13 = .ok (.iload_n 1, 1) := by decide +kernel
theorem d9_14 : decode (mB m9) 14 = .ok (.lshl, 1) := by decide +kernel
theorem d9_15 : decode (mB m9) 15 = .ok (.lreturn, 1) := by decide +kernel
theorem d10_0 : decode (mB m10) 0 = .ok (.aload_n 0, 1) := by decide +kernel
theorem d10_1 : decode (mB m10) 1 = .ok (.iload_n 1, 1) := by decide +kernel
theorem d10_2 : decode (mB m10) 2 = .ok (.invokevirtual 62, 3) := by decide +kernel
theorem d10_5 : decode (mB m10) 5 = .ok (.ifCond .ne 4, 3) := by decide +kernel
theorem d10_8 : decode (mB m10) 8 = .ok (.return_, 1) := by decide +kernel
theorem d10_9 : decode (mB m10) 9 = .ok (.aload_n 0, 1) := by decide +kernel
theorem d10_10 : decode (mB m10) 10 = .ok (.iload_n 1, 1) := by decide +kernel
theorem d10_11 : decode (mB m10) 11 = .ok (.invokevirtual 145, 3) := by decide +kernel
theorem d10_14 : decode (mB m10) 14 = .ok (.lstore_n 3, 1) := by decide +kernel
theorem d10_15 : decode (mB m10) 15 = .ok (.aload_n 0, 1) := by decide +kernel
theorem d10_16 : decode (mB m10) 16 = .ok (.aload_n 0, 1) := by decide +kernel
theorem d10_17 : decode (mB m10) 17 = .ok (.getfield 54, 3) := by decide +kernel
theorem d10_20 : decode (mB m10) 20 = .ok (.lload_n 3, 1) := by decide +kernel
theorem d10_21 : decode (mB m10) 21 = .ok (.ldc2_w 148, 3) := by decide +kernel
theorem d10_24 : decode (mB m10) 24 = .ok (.lxor, 1) := by decide +kernel
theorem d10_25 : decode (mB m10) 25 = .ok (.land, 1) := by decide +kernel
theorem d10_26 : decode (mB m10) 26 = .ok (.putfield 54, 3) := by decide +kernel
theorem d10_29 : decode (mB m10) 29 = .ok (.aload_n 0, 1) := by decide +kernel
theorem d10_30 : decode (mB m10) 30 = .ok (.aload_n 0, 1) := by decide +kernel
theorem d10_31 : decode (mB m10) 31 = .ok (.getfield 132, 3) := by decide +kernel
theorem d10_34 : decode (mB m10) 34 = .ok (.lload_n 3, 1) := by decide +kernel
theorem d10_35 : decode (mB m10) 35 = .ok (.ldc2_w 148, 3) := by decide +kernel
theorem d10_38 : decode (mB m10) 38 = .ok (.lxor, 1) := by decide +kernel
theorem d10_39 : decode (mB m10) 39 = .ok (.land, 1) := by decide +kernel
theorem d10_40 : decode (mB m10) 40 = .ok (.putfield 132, 3) := by decide +kernel
theorem d10_43 : decode (mB m10) 43 = .ok (.aload_n 0, 1) := by decide +kernel
theorem d10_44 : decode (mB m10) 44 = .ok (.aload_n 0, 1) := by decide +kernel
theorem d10_45 : decode (mB m10) 45 = .ok (.getfield 135, 3) := by decide +kernel
theorem d10_48 : decode (mB m10) 48 = .ok (.lload_n 3, 1) := by decide +kernel
theorem d10_49 : decode (mB m10) 49 = .ok (.ldc2_w 148, 3) := by decide +kernel
theorem d10_52 : decode (mB m10) 52 = .ok (.lxor, 1) := by decide +kernel
theorem d10_53 : decode (mB m10) 53 = .ok (.land, 1) := by decide +kernel
theorem d10_54 : decode (mB m10) 54 = .ok (.putfield 135, 3) := by decide +kernel
theorem d10_57 : decode (mB m10) 57 = .ok (.aload_n 0, 1) := by decide +kernel
theorem d10_58 : decode (mB m10) 58 = .ok (.aload_n 0, 1) := by decide +kernel
theorem d10_59 : decode (mB m10) 59 = .ok (.getfield 138, 3) := by decide +kernel
theorem d10_62 : decode (mB m10) 62 = .ok (.lload_n 3, 1) := by decide +kernel
theorem d10_63 : decode (mB m10) 63 = .ok (.ldc2_w 148, 3) := by decide +kernel
theorem d10_66 : decode (mB m10) 66 = .ok (.lxor, 1) := by decide +kernel
theorem d10_67 : decode (mB m10) 67 = .ok (.land, 1) := by decide +kernel
theorem d10_68 : decode (mB m10) 68 = .ok (.putfield 138, 3) := by decide +kernel
theorem d10_71 : decode (mB m10) 71 = .ok (.iload_n 2, 1) := by decide +kernel
theorem d10_72 : decode (mB m10) 72 = .ok (.ifCond .ne 16, 3) := by decide +kernel
theorem d10_75 : decode (mB m10) 75 = .ok (.aload_n 0, 1) := by decide +kernel
theorem d10_76 : decode (mB m10) 76 = .ok (.aload_n 0, 1) := by decide +kernel
theorem d10_77 : decode (mB m10) 77 = .ok (.getfield 54, 3) := by decide +kernel
theorem d10_80 : decode (mB m10) 80 = .ok (.lload_n 3, 1) := by decide +kernel
theorem d10_81 : decode (mB m10) 81 = .ok (.lor, 1) := by decide +kernel
theorem d10_82 : decode (mB m10) 82 = .ok (.putfield 54, 3) := by decide +kernel
theorem d10_85 : decode (mB m10) 85 = .ok (.goto 49, 3) := by decide +kernel
theorem d10_88 : decode (mB m10) 88 = .ok (.iload_n 2, 1) := by decide +kernel
theorem d10_89 : decode (mB m10) 89 = .ok (.iconst 1, 1) := by decide +kernel
theorem d10_90 : decode (mB m10) 90 = .ok (.if_icmp .ne 16, 3) := by decide +kernel
theorem d10_93 : decode (mB m10) 93 = .ok (.aload_n 0, 1) := by decide +kernel
theorem d10_94 : decode (mB m10) 94 = .ok (.aload_n 0, 1) := by decide +kernel
theorem d10_95 : decode (mB m10) 95 = .ok (.getfield 132, 3) := by decide +kernel
theorem d10_98 : decode (mB m10) 98 = .ok (.lload_n 3, 1) := by decide +kernel
theorem d10_99 : decode (mB m10) 99 = .ok (.lor, 1) := by decide +kernel
theorem d10_100 : decode (mB m10) 100 = .ok (.putfield 132, 3) := by decide +kernel
theorem d10_103 : decode (mB m10) 103 = .ok (.goto 31, 3) := by decide +kernel
theorem d10_106 : decode (mB m10) 106 = .ok (.iload_n 2, 1) := by decide +kernel
theorem d10_107 : decode (mB m10) 107 = .ok (.iconst 2, 1) := by decide +kernel
theorem d10_108 : decode (mB m10) 108 = .ok (.if_icmp .ne 16, 3) := by decide +kernel
theorem d10_111 : decode (mB m10) 111 = .ok (.aload_n 0, 1) := by decide +kernel
theorem d10_112 : decode (mB m10) 112 = .ok (.aload_n 0, 1) := by decide +kernel
theorem d10_113 : decode (mB m10) 113 = .ok (.getfield 135, 3) := by decide +kernel
theorem d10_116 : decode (mB m10) 116 = .ok (.lload_n 3, 1) := by decide +kernel
theorem d10_117 : decode (mB m10) 117 = .ok (.lor, 1) := by decide +kernel
theorem d10_118 : decode (mB m10) 118 = .ok (.putfield 135, 3) := by decide +kernel
theorem d10_121 : decode (mB m10) 121 = .ok (.goto 13, 3) := by decide +kernel
theorem d10_124 : decode (mB m10) 124 = .ok (.aload_n 0, 1) := by decide +kernel
theorem d10_125 : decode (mB m10) 125 = .ok (.aload_n 0, 1) := by decide +kernel
theorem d10_126 : decode (mB m10) 126 = .ok (.getfield 138, 3) := by decide +kernel
theorem d10_129 : decode (mB m10) 129 = .ok (.lload_n 3, 1) := by decide +kernel
theorem d10_130 : decode (mB m10) 130 = .ok (.lor, 1) := by decide +kernel
theorem d10_131 : decode (mB m10) 131 = .ok (.putfield 138, 3) := by decide +kernel
theorem d10_134 : decode (mB m10) 134 = .ok (.aload_n 0, 1) := by decide +kernel
theorem d10_135 : decode (mB m10) 135 = .ok (.getfield 7, 3) := by decide +kernel
theorem d10_138 : decode (mB m10) 138 = .ok (.iload_n 1, 1) := by decide +kernel
theorem d10_139 : decode (mB m10) 139 = .ok (.iload_n 2, 1) := by decide +kernel
theorem d10_140 : decode (mB m10) 140 = .ok (.i2b, 1) := by decide +kernel
theorem d10_141 : decode (mB m10) 141 = .ok (.bastore, 1) := by decide +kernel
theorem d10_142 : decode (mB m10) 142 = .ok (.aload_n 0, 1) := by decide +kernel
theorem d10_143 : decode (mB m10) 143 = .ok (.iconst 1, 1) := by decide +kernel
theorem d10_144 : decode (mB m10) 144 = .ok (.putfield 141, 3) := by decide +kernel
theorem d10_147 : decode (mB m10) 147 = .ok (.return_, 1) := by decide +kernel
theorem d11_0 : decode (mB m11) 0 = .ok (.aload_n 0, 1) := by decide +kernel
theorem d11_1 : decode (mB m11) 1 = .ok (.getfield 23, 3) := by decide +kernel
theorem d11_4 : decode (mB m11) 4 = .ok (.iload_n 2, 1) := by decide +kernel
theorem d11_5 : decode (mB m11) 5 = .ok (.iaload, 1) := by decide +kernel
theorem d11_6 : decode (mB m11) 6 = .ok (.istore_n 3, 1) := by decide +kernel
theorem d11_7 : decode (mB m11) 7 = .ok (.aload_n 0, 1) := by decide +kernel
theorem d11_8 : decode (mB m11) 8 = .ok (.getfield 29, 3) := by decide +kernel
theorem d11_11 : decode (mB m11) 11 = .ok (.iload_n 1, 1) := by decide +kernel
theorem d11_12 : decode (mB m11) 12 = .ok (.iconst (-1), 1) := by decide +kernel
theorem d11_13 : decode (mB m11) 13 = .ok (.iastore, 1) := by decide +kernel
theorem d11_14 : decode (mB m11) 14 = .ok (.aload_n 0, 1) := by decide +kernel
theorem d11_15 : decode (mB m11) 15 = .ok (.getfield 26, 3) := by decide +kernel
theorem d11_18 : decode (mB m11) 18 = .ok (.iload_n 1, 1) := by decide +kernel
theorem d11_19 : decode (mB m11) 19 = .ok (.iload_n 3, 1) := by decide +kernel
theorem d11_20 : decode (mB m11) 20 = .ok (.iastore, 1) := by decide +kernel
theorem d11_21 : decode (mB m11) 21 = .ok (.iload_n 3, 1) := by decide +kernel
theorem d11_22 : decode (mB m11) 22 = .ok (.ifCond .lt 16, 3) := by decide +kernel
theorem d11_25 : decode (mB m11) 25 = .ok (.iload_n 3, 1) := by decide +kernel
theorem d11_26 : decode (mB m11) 26 = .ok (.bipush 64, 2) := by decide +kernel
theorem d11_28 : decode (mB m11) 28 = .ok (.if_icmp .ge 10, 3) := by decide +kernel
theorem d11_31 : decode (mB m11) 31 = .ok (.aload_n 0, 1) := by decide +kernel
theorem d11_32 : decode (mB m11) 32 = .ok (.getfield 29, 3) := by decide +kernel
theorem d11_35 : decode (mB m11) 35 = .ok (.iload_n 3, 1) := by decide +kernel
theorem d11_36 : decode (mB m11) 36 = .ok (.iload_n 1, 1) := by decide +kernel
theorem d11_37 : decode (mB m11) 37 = .ok (.iastore, 1) := by decide +kernel
theorem d11_38 : decode (mB m11) 38 = .ok (.aload_n 0, 1) := by decide +kernel
theorem d11_39 : decode (mB m11) 39 = .ok (.getfield 23, 3) := by decide +kernel
theorem d11_42 : decode (mB m11) 42 = .ok (.iload_n 2, 1) := by decide +kernel
theorem d11_43 : decode (mB m11) 43 = .ok (.iload_n 1, 1) := by decide +kernel
theorem d11_44 : decode (mB m11) 44 = .ok (.iastore, 1) := by decide +kernel
theorem d11_45 : decode (mB m11) 45 = .ok (.aload_n 0, 1) := by decide +kernel
theorem d11_46 : decode (mB m11) 46 = .ok (.getfield 20, 3) := by decide +kernel
theorem d11_49 : decode (mB m11) 49 = .ok (.iload_n 1, 1) := by decide +kernel
theorem d11_50 : decode (mB m11) 50 = .ok (.iload_n 2, 1) := by decide +kernel
theorem d11_51 : decode (mB m11) 51 = .ok (.iastore, 1) := by decide +kernel
theorem d11_52 : decode (mB m11) 52 = .ok (.return_, 1) := by decide +kernel
theorem d12_0 : decode (mB m12) 0 = .ok (.iload_n 1, 1) := by decide +kernel
theorem d12_1 : decode (mB m12) 1 = .ok (.ifCond .lt 17, 3) := by decide +kernel
theorem d12_4 : decode (mB m12) 4 = .ok (.iload_n 1, 1) := by decide +kernel
theorem d12_5 : decode (mB m12) 5 = .ok (.bipush 64, 2) := by decide +kernel
theorem d12_7 : decode (mB m12) 7 = .ok (.if_icmp .ge 11, 3) := by decide +kernel
theorem d12_10 : decode (mB m12) 10 = .ok (.aload_n 0, 1) := by decide +kernel
theorem d12_11 : decode (mB m12) 11 = .ok (.iload_n 2, 1) := by decide +kernel
theorem d12_12 : decode (mB m12) 12 = .ok (.invokevirtual 62, 3) := by decide +kernel
theorem d12_15 : decode (mB m12) 15 = .ok (.ifCond .ne 4, 3) := by decide +kernel
theorem d12_18 : decode (mB m12) 18 = .ok (.return_, 1) := by decide +kernel
theorem d12_19 : decode (mB m12) 19 = .ok (.aload_n 0, 1) := by decide +kernel
theorem d12_20 : decode (mB m12) 20 = .ok (.iload_n 1, 1) := by decide +kernel
theorem d12_21 : decode (mB m12) 21 = .ok (.iload_n 2, 1) := by decide +kernel
theorem d12_22 : decode (mB m12) 22 = .ok (.invokevirtual 153, 3) := by decide +kernel
theorem d12_25 : decode (mB m12) 25 = .ok (.aload_n 0, 1) := by decide +kernel
theorem d12_26 : decode (mB m12) 26 = .ok (.getfield 17, 3) := by decide +kernel
theorem d12_29 : decode (mB m12) 29 = .ok (.iload_n 2, 1) := by decide +kernel
theorem d12_30 : decode (mB m12) 30 = .ok (.aload_n 0, 1) := by decide +kernel
theorem d12_31 : decode (mB m12) 31 = .ok (.getfield 17, 3) := by decide +kernel
theorem d12_34 : decode (mB m12) 34 = .ok (.iload_n 2, 1) := by decide +kernel
theorem d12_35 : decode (mB m12) 35 = .ok (.iaload, 1) := by decide +kernel
theorem d12_36 : decode (mB m12) 36 = .ok (.iconst 1, 1) := by decide +kernel
theorem d12_37 : decode (mB m12) 37 = .ok (.iadd, 1) := by decide +kernel
theorem d12_38 : decode (mB m12) 38 = .ok (.iastore, 1) := by decide +kernel
theorem d12_39 : decode (mB m12) 39 = .ok (.return_, 1) := by decide +kernel
theorem d13_0 : decode (mB m13) 0 = .ok (.aload_n 0, 1) := by decide +kernel
theorem d13_1 : decode (mB m13) 1 = .ok (.iload_n 1, 1) := by decide +kernel
theorem d13_2 : decode (mB m13) 2 = .ok (.iload_n 2, 1) := by decide +kernel
theorem d13_3 : decode (mB m13) 3 = .ok (.invokevirtual 50, 3) := by decide +kernel
theorem d13_6 : decode (mB m13) 6 = .ok (.istore 4, 2) := by decide +kernel
theorem d13_8 : decode (mB m13) 8 = .ok (.iload 4, 2) := by decide +kernel
theorem d13_10 : decode (mB m13) 10 = .ok (.ifCond .eq 6, 3) := by decide +kernel
theorem d13_13 : decode (mB m13) 13 = .ok (.iload 4, 2) := by decide +kernel
theorem d13_15 : decode (mB m13) 15 = .ok (.ireturn, 1) := by decide +kernel
theorem d13_16 : decode (mB m13) 16 = .ok (.aload_n 0, 1) := by decide +kernel
theorem d13_17 : decode (mB m13) 17 = .ok (.getfield 54, 3) := by decide +kernel
theorem d13_20 : decode (mB m13) 20 = .ok (.lconst 0, 1) := by decide +kernel
theorem d13_21 : decode (mB m13) 21 = .ok (.lcmp, 1) := by decide +kernel
theorem d13_22 : decode (mB m13) 22 = .ok (.ifCond .ne 6, 3) := by decide +kernel
theorem d13_25 : decode (mB m13) 25 = .ok (.bipush (-4), 2) := by decide +kernel
theorem d13_27 : decode (mB m13) 27 = .ok (.ireturn, 1) := by decide +kernel
theorem d13_28 : decode (mB m13) 28 = .ok (.aload_n 0, 1) := by decide +kernel
theorem d13_29 : decode (mB m13) 29 = .ok (.aload_n 0, 1) := by decide +kernel
theorem d13_30 : decode (mB m13) 30 = .ok (.getfield 54, 3) := by decide +kernel
theorem d13_33 : decode (mB m13) 33 = .ok (.invokevirtual 58, 3) := by decide +kernel
theorem d13_36 : decode (mB m13) 36 = .ok (.istore 5, 2) := by decide +kernel
theorem d13_38 : decode (mB m13) 38 = .ok (.aload_n 0, 1) := by decide +kernel
theorem d13_39 : decode (mB m13) 39 = .ok (.iload 5, 2) := by decide +kernel
theorem d13_41 : decode (mB m13) 41 = .ok (.invokevirtual 62, 3) := by decide +kernel
theorem d13_44 : decode (mB m13) 44 = .ok (.ifCond .ne 6, 3) := by decide +kernel
theorem d13_47 : decode (mB m13) 47 = .ok (.bipush (-4), 2) := by decide +kernel
theorem d13_49 : decode (mB m13) 49 = .ok (.ireturn, 1) := by decide +kernel
theorem d13_50 : decode (mB m13) 50 = .ok (.aload_n 0, 1) := by decide +kernel
theorem d13_51 : decode (mB m13) 51 = .ok (.iload_n 1, 1) := by decide +kernel
theorem d13_52 : decode (mB m13) 52 = .ok (.iload_n 2, 1) := by decide +kernel
theorem d13_53 : decode (mB m13) 53 = .ok (.invokevirtual 66, 3) := by decide +kernel
theorem d13_56 : decode (mB m13) 56 = .ok (.istore 6, 2) := by decide +kernel
theorem d13_58 : decode (mB m13) 58 = .ok (.aload_n 0, 1) := by decide +kernel
theorem d13_59 : decode (mB m13) 59 = .ok (.iload 5, 2) := by decide +kernel
theorem d13_61 : decode (mB m13) 61 = .ok (.iconst 1, 1) := by decide +kernel
theorem d13_62 : decode (mB m13) 62 = .ok (.invokevirtual 69, 3) := by decide +kernel
theorem d13_65 : decode (mB m13) 65 = .ok (.aload_n 0, 1) := by decide +kernel
theorem d13_66 : decode (mB m13) 66 = .ok (.getfield 13, 3) := by decide +kernel
theorem d13_69 : decode (mB m13) 69 = .ok (.iload 5, 2) := by decide +kernel
theorem d13_71 : decode (mB m13) 71 = .ok (.iload_n 3, 1) := by decide +kernel
theorem d13_72 : decode (mB m13) 72 = .ok (.iastore, 1) := by decide +kernel
theorem d13_73 : decode (mB m13) 73 = .ok (.aload_n 0, 1) := by decide +kernel
theorem d13_74 : decode (mB m13) 74 = .ok (.getfield 17, 3) := by decide +kernel
theorem d13_77 : decode (mB m13) 77 = .ok (.iload 5, 2) := by decide +kernel
theorem d13_79 : decode (mB m13) 79 = .ok (.iconst 0, 1) := by decide +kernel
theorem d13_80 : decode (mB m13) 80 = .ok (.iastore, 1) := by decide +kernel
theorem d13_81 : decode (mB m13) 81 = .ok (.aload_n 0, 1) := by decide +kernel
theorem d13_82 : decode (mB m13) 82 = .ok (.iload 6, 2) := by decide +kernel
theorem d13_84 : decode (mB m13) 84 = .ok (.iload 5, 2) := by decide +kernel
theorem d13_86 : decode (mB m13) 86 = .ok (.invokevirtual 73, 3) := by decide +kernel
theorem d13_89 : decode (mB m13) 89 = .ok (.iload 5, 2) := by decide +kernel
theorem d13_91 : decode (mB m13) 91 = .ok (.ireturn, 1) := by decide +kernel
theorem d14_0 : decode (mB m14) 0 = .ok (.aload_n 0, 1) := by decide +kernel
theorem d14_1 : decode (mB m14) 1 = .ok (.iload_n 1, 1) := by decide +kernel
theorem d14_2 : decode (mB m14) 2 = .ok (.iload_n 2, 1) := by decide +kernel
theorem d14_3 : decode (mB m14) 3 = .ok (.invokevirtual 76, 3) := by decide +kernel
theorem d14_6 : decode (mB m14) 6 = .ok (.ifCond .ne 5, 3) := by decide +kernel
theorem d14_9 : decode (mB m14) 9 = .ok (.iconst (-1), 1) := by decide +kernel
theorem d14_10 : decode (mB m14) 10 = .ok (.ireturn, 1) := by decide +kernel
theorem d14_11 : decode (mB m14) 11 = .ok (.aload_n 0, 1) := by decide +kernel
theorem d14_12 : decode (mB m14) 12 = .ok (.iload_n 3, 1) := by decide +kernel
theorem d14_13 : decode (mB m14) 13 = .ok (.iload 4, 2) := by decide +kernel
theorem d14_15 : decode (mB m14) 15 = .ok (.invokevirtual 76, 3) := by decide +kernel
theorem d14_18 : decode (mB m14) 18 = .ok (.ifCond .ne 5, 3) := by decide +kernel
theorem d14_21 : decode (mB m14) 21 = .ok (.iconst (-1), 1) := by decide +kernel
theorem d14_22 : decode (mB m14) 22 = .ok (.ireturn, 1) := by decide +kernel
theorem d14_23 : decode (mB m14) 23 = .ok (.aload_n 0, 1) := by decide +kernel
theorem d14_24 : decode (mB m14) 24 = .ok (.iload_n 1, 1) := by decide +kernel
theorem d14_25 : decode (mB m14) 25 = .ok (.iload_n 2, 1) := by decide +kernel
theorem d14_26 : decode (mB m14) 26 = .ok (.invokevirtual 66, 3) := by decide +kernel
theorem d14_29 : decode (mB m14) 29 = .ok (.istore 5, 2) := by decide +kernel
theorem d14_31 : decode (mB m14) 31 = .ok (.aload_n 0, 1) := by decide +kernel
theorem d14_32 : decode (mB m14) 32 = .ok (.getfield 20, 3) := by decide +kernel
theorem d14_35 : decode (mB m14) 35 = .ok (.iload 5, 2) := by decide +kernel
theorem d14_37 : decode (mB m14) 37 = .ok (.iaload, 1) := by decide +kernel
theorem d14_38 : decode (mB m14) 38 = .ok (.ifCond .lt 6, 3) := by decide +kernel
theorem d14_41 : decode (mB m14) 41 = .ok (.bipush (-2), 2) := by decide +kernel
theorem d14_43 : decode (mB m14) 43 = .ok (.ireturn, 1) := by decide +kernel
theorem d14_44 : decode (mB m14) 44 = .ok (.aload_n 0, 1) := by decide +kernel
theorem d14_45 : decode (mB m14) 45 = .ok (.iload_n 3, 1) := by decide +kernel
theorem d14_46 : decode (mB m14) 46 = .ok (.iload 4, 2) := by decide +kernel
theorem d14_48 : decode (mB m14) 48 = .ok (.invokevirtual 66, 3) := by decide +kernel
theorem d14_51 : decode (mB m14) 51 = .ok (.istore 6, 2) := by decide +kernel
theorem d14_53 : decode (mB m14) 53 = .ok (.aload_n 0, 1) := by decide +kernel
theorem d14_54 : decode (mB m14) 54 = .ok (.getfield 20, 3) := by decide +kernel
theorem d14_57 : decode (mB m14) 57 = .ok (.iload 6, 2) := by decide +kernel
theorem d14_59 : decode (mB m14) 59 = .ok (.iaload, 1) := by decide +kernel
theorem d14_60 : decode (mB m14) 60 = .ok (.istore 7, 2) := by decide +kernel
theorem d14_62 : decode (mB m14) 62 = .ok (.aload_n 0, 1) := by decide +kernel
theorem d14_63 : decode (mB m14) 63 = .ok (.iload 7, 2) := by decide +kernel
theorem d14_65 : decode (mB m14) 65 = .ok (.invokevirtual 62, 3) := by decide +kernel
theorem d14_68 : decode (mB m14) 68 = .ok (.ifCond .ne 6, 3) := by decide +kernel
theorem d14_71 : decode (mB m14) 71 = .ok (.bipush (-3), 2) := by decide +kernel
theorem d14_73 : decode (mB m14) 73 = .ok (.ireturn, 1) := by decide +kernel
theorem d14_74 : decode (mB m14) 74 = .ok (.aload_n 0, 1) := by decide +kernel
theorem d14_75 : decode (mB m14) 75 = .ok (.iload 5, 2) := by decide +kernel
theorem d14_77 : decode (mB m14) 77 = .ok (.iload 7, 2) := by decide +kernel
theorem d14_79 : decode (mB m14) 79 = .ok (.invokevirtual 73, 3) := by decide +kernel
theorem d14_82 : decode (mB m14) 82 = .ok (.iload 7, 2) := by decide +kernel
theorem d14_84 : decode (mB m14) 84 = .ok (.ireturn, 1) := by decide +kernel
theorem d15_0 : decode (mB m15) 0 = .ok (.iload_n 1, 1) := by decide +kernel
theorem d15_1 : decode (mB m15) 1 = .ok (.ifCond .lt 9, 3) := by decide +kernel
theorem d15_4 : decode (mB m15) 4 = .ok (.iload_n 1, 1) := by decide +kernel
theorem d15_5 : decode (mB m15) 5 = .ok (.bipush 64, 2) := by decide +kernel
theorem d15_7 : decode (mB m15) 7 = .ok (.if_icmp .lt 5, 3) := by decide +kernel
theorem d15_10 : decode (mB m15) 10 = .ok (.iconst (-1), 1) := by decide +kernel
theorem d15_11 : decode (mB m15) 11 = .ok (.ireturn, 1) := by decide +kernel
theorem d15_12 : decode (mB m15) 12 = .ok (.aload_n 0, 1) := by decide +kernel
theorem d15_13 : decode (mB m15) 13 = .ok (.getfield 20, 3) := by decide +kernel
theorem d15_16 : decode (mB m15) 16 = .ok (.iload_n 1, 1) := by decide +kernel
theorem d15_17 : decode (mB m15) 17 = .ok (.iaload, 1) := by decide +kernel
theorem d15_18 : decode (mB m15) 18 = .ok (.istore_n 2, 1) := by decide +kernel
theorem d15_19 : decode (mB m15) 19 = .ok (.iload_n 2, 1) := by decide +kernel
theorem d15_20 : decode (mB m15) 20 = .ok (.ifCond .lt 9, 3) := by decide +kernel
theorem d15_23 : decode (mB m15) 23 = .ok (.iload_n 2, 1) := by decide +kernel
theorem d15_24 : decode (mB m15) 24 = .ok (.bipush 64, 2) := by decide +kernel
theorem d15_26 : decode (mB m15) 26 = .ok (.if_icmp .lt 5, 3) := by decide +kernel
theorem d15_29 : decode (mB m15) 29 = .ok (.iconst (-1), 1) := by decide +kernel
theorem d15_30 : decode (mB m15) 30 = .ok (.ireturn, 1) := by decide +kernel
theorem d15_31 : decode (mB m15) 31 = .ok (.aload_n 0, 1) := by decide +kernel
theorem d15_32 : decode (mB m15) 32 = .ok (.getfield 29, 3) := by decide +kernel
theorem d15_35 : decode (mB m15) 35 = .ok (.iload_n 1, 1) := by decide +kernel
theorem d15_36 : decode (mB m15) 36 = .ok (.iaload, 1) := by decide +kernel
theorem d15_37 : decode (mB m15) 37 = .ok (.istore_n 3, 1) := by decide +kernel
theorem d15_38 : decode (mB m15) 38 = .ok (.aload_n 0, 1) := by decide +kernel
theorem d15_39 : decode (mB m15) 39 = .ok (.getfield 26, 3) := by decide +kernel
theorem d15_42 : decode (mB m15) 42 = .ok (.iload_n 1, 1) := by decide +kernel
theorem d15_43 : decode (mB m15) 43 = .ok (.iaload, 1) := by decide +kernel
theorem d15_44 : decode (mB m15) 44 = .ok (.istore 4, 2) := by decide +kernel
theorem d15_46 : decode (mB m15) 46 = .ok (.iload_n 3, 1) := by decide +kernel
theorem d15_47 : decode (mB m15) 47 = .ok (.ifCond .lt 20, 3) := by decide +kernel
theorem d15_50 : decode (mB m15) 50 = .ok (.iload_n 3, 1) := by decide +kernel
theorem d15_51 : decode (mB m15) 51 = .ok (.bipush 64, 2) := by decide +kernel
theorem d15_53 : decode (mB m15) 53 = .ok (.if_icmp .ge 14, 3) := by decide +kernel
theorem d15_56 : decode (mB m15) 56 = .ok (.aload_n 0, 1) := by decide +kernel
theorem d15_57 : decode (mB m15) 57 = .ok (.getfield 26, 3) := by decide +kernel
theorem d15_60 : decode (mB m15) 60 = .ok (.iload_n 3, 1) := by decide +kernel
theorem d15_61 : decode (mB m15) 61 = .ok (.iload 4, 2) := by decide +kernel
theorem d15_63 : decode (mB m15) 63 = .ok (.iastore, 1) := by decide +kernel
theorem d15_64 : decode (mB m15) 64 = .ok (.goto 11, 3) := by decide +kernel
theorem d15_67 : decode (mB m15) 67 = .ok (.aload_n 0, 1) := by decide +kernel
theorem d15_68 : decode (mB m15) 68 = .ok (.getfield 23, 3) := by decide +kernel
theorem d15_71 : decode (mB m15) 71 = .ok (.iload_n 2, 1) := by decide +kernel
theorem d15_72 : decode (mB m15) 72 = .ok (.iload 4, 2) := by decide +kernel
theorem d15_74 : decode (mB m15) 74 = .ok (.iastore, 1) := by decide +kernel
theorem d15_75 : decode (mB m15) 75 = .ok (.iload 4, 2) := by decide +kernel
theorem d15_77 : decode (mB m15) 77 = .ok (.ifCond .lt 18, 3) := by decide +kernel
theorem d15_80 : decode (mB m15) 80 = .ok (.iload 4, 2) := by decide +kernel
theorem d15_82 : decode (mB m15) 82 = .ok (.bipush 64, 2) := by decide +kernel
theorem d15_84 : decode (mB m15) 84 = .ok (.if_icmp .ge 11, 3) := by decide +kernel
theorem d15_87 : decode (mB m15) 87 = .ok (.aload_n 0, 1) := by decide +kernel
theorem d15_88 : decode (mB m15) 88 = .ok (.getfield 29, 3) := by decide +kernel
theorem d15_91 : decode (mB m15) 91 = .ok (.iload 4, 2) := by decide +kernel
theorem d15_93 : decode (mB m15) 93 = .ok (.iload_n 3, 1) := by decide +kernel
theorem d15_94 : decode (mB m15) 94 = .ok (.iastore, 1) := by decide +kernel
theorem d15_95 : decode (mB m15) 95 = .ok (.aload_n 0, 1) := by decide +kernel
theorem d15_96 : decode (mB m15) 96 = .ok (.getfield 29, 3) := by decide +kernel
theorem d15_99 : decode (mB m15) 99 = .ok (.iload_n 1, 1) := by decide +kernel
theorem d15_100 : decode (mB m15) 100 = .ok (.iconst (-1), 1) := by decide +kernel
theorem d15_101 : decode (mB m15) 101 = .ok (.iastore, 1) := by decide +kernel
theorem d15_102 : decode (mB m15) 102 = .ok (.aload_n 0, 1) := by decide +kernel
theorem d15_103 : decode (mB m15) 103 = .ok (.getfield 26, 3) := by decide +kernel
theorem d15_106 : decode (mB m15) 106 = .ok (.iload_n 1, 1) := by decide +kernel
theorem d15_107 : decode (mB m15) 107 = .ok (.iconst (-1), 1) := by decide +kernel
theorem d15_108 : decode (mB m15) 108 = .ok (.iastore, 1) := by decide +kernel
theorem d15_109 : decode (mB m15) 109 = .ok (.aload_n 0, 1) := by decide +kernel
theorem d15_110 : decode (mB m15) 110 = .ok (.getfield 20, 3) := by decide +kernel
theorem d15_113 : decode (mB m15) 113 = .ok (.iload_n 1, 1) := by decide +kernel
theorem d15_114 : decode (mB m15) 114 = .ok (.iconst (-1), 1) := by decide +kernel
theorem d15_115 : decode (mB m15) 115 = .ok (.iastore, 1) := by decide +kernel
theorem d15_116 : decode (mB m15) 116 = .ok (.iload_n 2, 1) := by decide +kernel
theorem d15_117 : decode (mB m15) 117 = .ok (.ireturn, 1) := by decide +kernel
theorem d16_0 : decode (mB m16) 0 = .ok (.aload_n 0, 1) := by decide +kernel
theorem d16_1 : decode (mB m16) 1 = .ok (.iload_n 1, 1) := by decide +kernel
theorem d16_2 : decode (mB m16) 2 = .ok (.invokevirtual 156, 3) := by decide +kernel
theorem d16_5 : decode (mB m16) 5 = .ok (.istore_n 2, 1) := by decide +kernel
theorem d16_6 : decode (mB m16) 6 = .ok (.aload_n 0, 1) := by decide +kernel
theorem d16_7 : decode (mB m16) 7 = .ok (.iload_n 2, 1) := by decide +kernel
theorem d16_8 : decode (mB m16) 8 = .ok (.invokevirtual 62, 3) := by decide +kernel
theorem d16_11 : decode (mB m16) 11 = .ok (.ifCond .ne 5, 3) := by decide +kernel
theorem d16_14 : decode (mB m16) 14 = .ok (.iconst (-1), 1) := by decide +kernel
theorem d16_15 : decode (mB m16) 15 = .ok (.ireturn, 1) := by decide +kernel
theorem d16_16 : decode (mB m16) 16 = .ok (.aload_n 0, 1) := by decide +kernel
theorem d16_17 : decode (mB m16) 17 = .ok (.getfield 17, 3) := by decide +kernel
theorem d16_20 : decode (mB m16) 20 = .ok (.iload_n 2, 1) := by decide +kernel
theorem d16_21 : decode (mB m16) 21 = .ok (.aload_n 0, 1) := by decide +kernel
theorem d16_22 : decode (mB m16) 22 = .ok (.getfield 17, 3) := by decide +kernel
theorem d16_25 : decode (mB m16) 25 = .ok (.iload_n 2, 1) := by decide +kernel
theorem d16_26 : decode (mB m16) 26 = .ok (.iaload, 1) := by decide +kernel
theorem d16_27 : decode (mB m16) 27 = .ok (.iconst 1, 1) := by decide +kernel
theorem d16_28 : decode (mB m16) 28 = .ok (.isub, 1) := by decide +kernel
theorem d16_29 : decode (mB m16) 29 = .ok (.iastore, 1) := by decide +kernel
theorem d16_30 : decode (mB m16) 30 = .ok (.iload_n 2, 1) := by decide +kernel
theorem d16_31 : decode (mB m16) 31 = .ok (.ireturn, 1) := by decide +kernel
theorem d17_0 : decode (mB m17) 0 = .ok (.aload_n 0, 1) := by decide +kernel
theorem d17_1 : decode (mB m17) 1 = .ok (.iload_n 1, 1) := by decide +kernel
theorem d17_2 : decode (mB m17) 2 = .ok (.invokevirtual 62, 3) := by decide +kernel
theorem d17_5 : decode (mB m17) 5 = .ok (.ifCond .ne 4, 3) := by decide +kernel
theorem d17_8 : decode (mB m17) 8 = .ok (.return_, 1) := by decide +kernel
theorem d17_9 : decode (mB m17) 9 = .ok (.aload_n 0, 1) := by decide +kernel
theorem d17_10 : decode (mB m17) 10 = .ok (.getfield 13, 3) := by decide +kernel
theorem d17_13 : decode (mB m17) 13 = .ok (.iload_n 1, 1) := by decide +kernel
theorem d17_14 : decode (mB m17) 14 = .ok (.iconst 0, 1) := by decide +kernel
theorem d17_15 : decode (mB m17) 15 = .ok (.iastore, 1) := by decide +kernel
theorem d17_16 : decode (mB m17) 16 = .ok (.aload_n 0, 1) := by decide +kernel
theorem d17_17 : decode (mB m17) 17 = .ok (.getfield 17, 3) := by decide +kernel
theorem d17_20 : decode (mB m17) 20 = .ok (.iload_n 1, 1) := by decide +kernel
theorem d17_21 : decode (mB m17) 21 = .ok (.iconst 0, 1) := by decide +kernel
theorem d17_22 : decode (mB m17) 22 = .ok (.iastore, 1) := by decide +kernel
theorem d17_23 : decode (mB m17) 23 = .ok (.aload_n 0, 1) := by decide +kernel
theorem d17_24 : decode (mB m17) 24 = .ok (.getfield 23, 3) := by decide +kernel
theorem d17_27 : decode (mB m17) 27 = .ok (.iload_n 1, 1) := by decide +kernel
theorem d17_28 : decode (mB m17) 28 = .ok (.iconst (-1), 1) := by decide +kernel
theorem d17_29 : decode (mB m17) 29 = .ok (.iastore, 1) := by decide +kernel
theorem d17_30 : decode (mB m17) 30 = .ok (.aload_n 0, 1) := by decide +kernel
theorem d17_31 : decode (mB m17) 31 = .ok (.iload_n 1, 1) := by decide +kernel
theorem d17_32 : decode (mB m17) 32 = .ok (.iconst 0, 1) := by decide +kernel
theorem d17_33 : decode (mB m17) 33 = .ok (.invokevirtual 69, 3) := by decide +kernel
theorem d17_36 : decode (mB m17) 36 = .ok (.return_, 1) := by decide +kernel
theorem d18_0 : decode (mB m18) 0 = .ok (.aload_n 0, 1) := by decide +kernel
theorem d18_1 : decode (mB m18) 1 = .ok (.iload_n 1, 1) := by decide +kernel
theorem d18_2 : decode (mB m18) 2 = .ok (.iload_n 2, 1) := by decide +kernel
theorem d18_3 : decode (mB m18) 3 = .ok (.invokevirtual 76, 3) := by decide +kernel
theorem d18_6 : decode (mB m18) 6 = .ok (.ifCond .ne 5, 3) := by decide +kernel
theorem d18_9 : decode (mB m18) 9 = .ok (.iconst (-1), 1) := by decide +kernel
theorem d18_10 : decode (mB m18) 10 = .ok (.ireturn, 1) := by decide +kernel
theorem d18_11 : decode (mB m18) 11 = .ok (.aload_n 0, 1) := by decide +kernel
theorem d18_12 : decode (mB m18) 12 = .ok (.iload_n 1, 1) := by decide +kernel
theorem d18_13 : decode (mB m18) 13 = .ok (.iload_n 2, 1) := by decide +kernel
theorem d18_14 : decode (mB m18) 14 = .ok (.invokevirtual 66, 3) := by decide +kernel
theorem d18_17 : decode (mB m18) 17 = .ok (.istore_n 3, 1) := by decide +kernel
theorem d18_18 : decode (mB m18) 18 = .ok (.aload_n 0, 1) := by decide +kernel
theorem d18_19 : decode (mB m18) 19 = .ok (.getfield 20, 3) := by decide +kernel
theorem d18_22 : decode (mB m18) 22 = .ok (.iload_n 3, 1) := by decide +kernel
theorem d18_23 : decode (mB m18) 23 = .ok (.iaload, 1) := by decide +kernel
theorem d18_24 : decode (mB m18) 24 = .ok (.ifCond .ge 6, 3) := by decide +kernel
theorem d18_27 : decode (mB m18) 27 = .ok (.bipush (-3), 2) := by decide +kernel
theorem d18_29 : decode (mB m18) 29 = .ok (.ireturn, 1) := by decide +kernel
theorem d18_30 : decode (mB m18) 30 = .ok (.aload_n 0, 1) := by decide +kernel
theorem d18_31 : decode (mB m18) 31 = .ok (.iload_n 3, 1) := by decide +kernel
theorem d18_32 : decode (mB m18) 32 = .ok (.invokevirtual 80, 3) := by decide +kernel
theorem d18_35 : decode (mB m18) 35 = .ok (.istore 4, 2) := by decide +kernel
theorem d18_37 : decode (mB m18) 37 = .ok (.aload_n 0, 1) := by decide +kernel
theorem d18_38 : decode (mB m18) 38 = .ok (.iload 4, 2) := by decide +kernel
theorem d18_40 : decode (mB m18) 40 = .ok (.invokevirtual 62, 3) := by decide +kernel
theorem d18_43 : decode (mB m18) 43 = .ok (.ifCond .ne 6, 3) := by decide +kernel
theorem d18_46 : decode (mB m18) 46 = .ok (.bipush (-3), 2) := by decide +kernel
theorem d18_48 : decode (mB m18) 48 = .ok (.ireturn, 1) := by decide +kernel
theorem d18_49 : decode (mB m18) 49 = .ok (.aload_n 0, 1) := by decide +kernel
theorem d18_50 : decode (mB m18) 50 = .ok (.getfield 17, 3) := by decide +kernel
theorem d18_53 : decode (mB m18) 53 = .ok (.iload 4, 2) := by decide +kernel
theorem d18_55 : decode (mB m18) 55 = .ok (.iaload, 1) := by decide +kernel
theorem d18_56 : decode (mB m18) 56 = .ok (.ifCond .gt 9, 3) := by decide +kernel
theorem d18_59 : decode (mB m18) 59 = .ok (.aload_n 0, 1) := by decide +kernel
theorem d18_60 : decode (mB m18) 60 = .ok (.iload 4, 2) := by decide +kernel
theorem d18_62 : decode (mB m18) 62 = .ok (.invokevirtual 84, 3) := by decide +kernel
theorem d18_65 : decode (mB m18) 65 = .ok (.iload 4, 2) := by decide +kernel
theorem d18_67 : decode (mB m18) 67 = .ok (.ireturn, 1) := by decide +kernel
theorem d19_0 : decode (mB m19) 0 = .ok (.aload_n 0, 1) := by decide +kernel
theorem d19_1 : decode (mB m19) 1 = .ok (.iload_n 1, 1) := by decide +kernel
theorem d19_2 : decode (mB m19) 2 = .ok (.iload_n 2, 1) := by decide +kernel
theorem d19_3 : decode (mB m19) 3 = .ok (.invokevirtual 76, 3) := by decide +kernel
theorem d19_6 : decode (mB m19) 6 = .ok (.ifCond .ne 5, 3) := by decide +kernel
theorem d19_9 : decode (mB m19) 9 = .ok (.iconst (-1), 1) := by decide +kernel
theorem d19_10 : decode (mB m19) 10 = .ok (.ireturn, 1) := by decide +kernel
theorem d19_11 : decode (mB m19) 11 = .ok (.aload_n 0, 1) := by decide +kernel
theorem d19_12 : decode (mB m19) 12 = .ok (.iload_n 1, 1) := by decide +kernel
theorem d19_13 : decode (mB m19) 13 = .ok (.iload_n 2, 1) := by decide +kernel
theorem d19_14 : decode (mB m19) 14 = .ok (.invokevirtual 66, 3) := by decide +kernel
theorem d19_17 : decode (mB m19) 17 = .ok (.istore_n 3, 1) := by decide +kernel
theorem d19_18 : decode (mB m19) 18 = .ok (.aload_n 0, 1) := by decide +kernel
theorem d19_19 : decode (mB m19) 19 = .ok (.getfield 20, 3) := by decide +kernel
theorem d19_22 : decode (mB m19) 22 = .ok (.iload_n 3, 1) := by decide +kernel
theorem d19_23 : decode (mB m19) 23 = .ok (.iaload, 1) := by decide +kernel
theorem d19_24 : decode (mB m19) 24 = .ok (.istore 4, 2) := by decide +kernel
theorem d19_26 : decode (mB m19) 26 = .ok (.aload_n 0, 1) := by decide +kernel
theorem d19_27 : decode (mB m19) 27 = .ok (.iload 4, 2) := by decide +kernel
theorem d19_29 : decode (mB m19) 29 = .ok (.invokevirtual 62, 3) := by decide +kernel
theorem d19_32 : decode (mB m19) 32 = .ok (.ifCond .ne 5, 3) := by decide +kernel
theorem d19_35 : decode (mB m19) 35 = .ok (.iconst (-1), 1) := by decide +kernel
theorem d19_36 : decode (mB m19) 36 = .ok (.ireturn, 1) := by decide +kernel
theorem d19_37 : decode (mB m19) 37 = .ok (.iload 4, 2) := by decide +kernel
theorem d19_39 : decode (mB m19) 39 = .ok (.ireturn, 1) := by decide +kernel
theorem d20_0 : decode (mB m20) 0 = .ok (.aload_n 0, 1) := by decide +kernel
theorem d20_1 : decode (mB m20) 1 = .ok (.iload_n 1, 1) := by decide +kernel
theorem d20_2 : decode (mB m20) 2 = .ok (.iload_n 2, 1) := by decide +kernel
theorem d20_3 : decode (mB m20) 3 = .ok (.invokevirtual 88, 3) := by decide +kernel
theorem d20_6 : decode (mB m20) 6 = .ok (.istore 4, 2) := by decide +kernel
theorem d20_8 : decode (mB m20) 8 = .ok (.iload 4, 2) := by decide +kernel
theorem d20_10 : decode (mB m20) 10 = .ok (.ifCond .ge 5, 3) := by decide +kernel
theorem d20_13 : decode (mB m20) 13 = .ok (.iconst 0, 1) := by decide +kernel
theorem d20_14 : decode (mB m20) 14 = .ok (.ireturn, 1) := by decide +kernel
theorem d20_15 : decode (mB m20) 15 = .ok (.aload_n 0, 1) := by decide +kernel
theorem d20_16 : decode (mB m20) 16 = .ok (.getfield 13, 3) := by decide +kernel
theorem d20_19 : decode (mB m20) 19 = .ok (.iload 4, 2) := by decide +kernel
theorem d20_21 : decode (mB m20) 21 = .ok (.iload_n 3, 1) := by decide +kernel
theorem d20_22 : decode (mB m20) 22 = .ok (.iastore, 1) := by decide +kernel
theorem d20_23 : decode (mB m20) 23 = .ok (.iconst 1, 1) := by decide +kernel
theorem d20_24 : decode (mB m20) 24 = .ok (.ireturn, 1) := by decide +kernel
theorem d21_0 : decode (mB m21) 0 = .ok (.aload_n 0, 1) := by decide +kernel
theorem d21_1 : decode (mB m21) 1 = .ok (.iload_n 1, 1) := by decide +kernel
theorem d21_2 : decode (mB m21) 2 = .ok (.invokevirtual 62, 3) := by decide +kernel
theorem d21_5 : decode (mB m21) 5 = .ok (.ifCond .ne 5, 3) := by decide +kernel
theorem d21_8 : decode (mB m21) 8 = .ok (.iconst 0, 1) := by decide +kernel
theorem d21_9 : decode (mB m21) 9 = .ok (.ireturn, 1) := by decide +kernel
theorem d21_10 : decode (mB m21) 10 = .ok (.aload_n 0, 1) := by decide +kernel
theorem d21_11 : decode (mB m21) 11 = .ok (.getfield 7, 3) := by decide +kernel
theorem d21_14 : decode (mB m21) 14 = .ok (.iload_n 1, 1) := by decide +kernel
theorem d21_15 : decode (mB m21) 15 = .ok (.baload, 1) := by decide +kernel
theorem d21_16 : decode (mB m21) 16 = .ok (.iconst 1, 1) := by decide +kernel
theorem d21_17 : decode (mB m21) 17 = .ok (.if_icmp .eq 5, 3) := by decide +kernel
theorem d21_20 : decode (mB m21) 20 = .ok (.iconst 0, 1) := by decide +kernel
theorem d21_21 : decode (mB m21) 21 = .ok (.ireturn, 1) := by decide +kernel
theorem d21_22 : decode (mB m21) 22 = .ok (.aload_n 0, 1) := by decide +kernel
theorem d21_23 : decode (mB m21) 23 = .ok (.iload_n 1, 1) := by decide +kernel
theorem d21_24 : decode (mB m21) 24 = .ok (.iconst 2, 1) := by decide +kernel
theorem d21_25 : decode (mB m21) 25 = .ok (.invokevirtual 69, 3) := by decide +kernel
theorem d21_28 : decode (mB m21) 28 = .ok (.iconst 1, 1) := by decide +kernel
theorem d21_29 : decode (mB m21) 29 = .ok (.ireturn, 1) := by decide +kernel
theorem d22_0 : decode (mB m22) 0 = .ok (.aload_n 0, 1) := by decide +kernel
theorem d22_1 : decode (mB m22) 1 = .ok (.iload_n 1, 1) := by decide +kernel
theorem d22_2 : decode (mB m22) 2 = .ok (.invokevirtual 62, 3) := by decide +kernel
theorem d22_5 : decode (mB m22) 5 = .ok (.ifCond .ne 5, 3) := by decide +kernel
theorem d22_8 : decode (mB m22) 8 = .ok (.iconst 0, 1) := by decide +kernel
theorem d22_9 : decode (mB m22) 9 = .ok (.ireturn, 1) := by decide +kernel
theorem d22_10 : decode (mB m22) 10 = .ok (.aload_n 0, 1) := by decide +kernel
theorem d22_11 : decode (mB m22) 11 = .ok (.getfield 7, 3) := by decide +kernel
theorem d22_14 : decode (mB m22) 14 = .ok (.iload_n 1, 1) := by decide +kernel
theorem d22_15 : decode (mB m22) 15 = .ok (.baload, 1) := by decide +kernel
theorem d22_16 : decode (mB m22) 16 = .ok (.iconst 2, 1) := by decide +kernel
theorem d22_17 : decode (mB m22) 17 = .ok (.if_icmp .eq 5, 3) := by decide +kernel
theorem d22_20 : decode (mB m22) 20 = .ok (.iconst 0, 1) := by decide +kernel
theorem d22_21 : decode (mB m22) 21 = .ok (.ireturn, 1) := by decide +kernel
theorem d22_22 : decode (mB m22) 22 = .ok (.aload_n 0, 1) := by decide +kernel
theorem d22_23 : decode (mB m22) 23 = .ok (.iload_n 1, 1) := by decide +kernel
theorem d22_24 : decode (mB m22) 24 = .ok (.iconst 1, 1) := by decide +kernel
theorem d22_25 : decode (mB m22) 25 = .ok (.invokevirtual 69, 3) := by decide +kernel
theorem d22_28 : decode (mB m22) 28 = .ok (.iconst 1, 1) := by decide +kernel
theorem d22_29 : decode (mB m22) 29 = .ok (.ireturn, 1) := by decide +kernel
theorem d23_0 : decode (mB m23) 0 = .ok (.iload_n 1, 1) := by decide +kernel
theorem d23_1 : decode (mB m23) 1 = .ok (.ifCond .ne 7, 3) := by decide +kernel
theorem d23_4 : decode (mB m23) 4 = .ok (.ldc2_w 148, 3) := by decide +kernel
theorem d23_7 : decode (mB m23) 7 = .ok (.lreturn, 1) := by decide +kernel
theorem d23_8 : decode (mB m23) 8 = .ok (.iload_n 1, 1) := by decide +kernel
theorem d23_9 : decode (mB m23) 9 = .ok (.iconst 1, 1) := by decide +kernel
theorem d23_10 : decode (mB m23) 10 = .ok (.if_icmp .ne 7, 3) := by decide +kernel
theorem d23_13 : decode (mB m23) 13 = .ok (.ldc2_w 162, 3) := by decide +kernel
theorem d23_16 : decode (mB m23) 16 = .ok (.lreturn, 1) := by decide +kernel
theorem d23_17 : decode (mB m23) 17 = .ok (.iload_n 1, 1) := by decide +kernel
theorem d23_18 : decode (mB m23) 18 = .ok (.iconst 2, 1) := by decide +kernel
theorem d23_19 : decode (mB m23) 19 = .ok (.if_icmp .ne 7, 3) := by decide +kernel
theorem d23_22 : decode (mB m23) 22 = .ok (.ldc2_w 164, 3) := by decide +kernel
theorem d23_25 : decode (mB m23) 25 = .ok (.lreturn, 1) := by decide +kernel
theorem d23_26 : decode (mB m23) 26 = .ok (.iload_n 1, 1) := by decide +kernel
theorem d23_27 : decode (mB m23) 27 = .ok (.iconst 3, 1) := by decide +kernel
theorem d23_28 : decode (mB m23) 28 = .ok (.if_icmp .ne 7, 3) := by decide +kernel
theorem d23_31 : decode (mB m23) 31 = .ok (.ldc2_w 166, 3) := by decide +kernel
theorem d23_34 : decode (mB m23) 34 = .ok (.lreturn, 1) := by decide +kernel
theorem d23_35 : decode (mB m23) 35 = .ok (.iload_n 1, 1) := by decide +kernel
theorem d23_36 : decode (mB m23) 36 = .ok (.iconst 4, 1) := by decide +kernel
theorem d23_37 : decode (mB m23) 37 = .ok (.if_icmp .ne 7, 3) := by decide +kernel
theorem d23_40 : decode (mB m23) 40 = .ok (.ldc2_w 168, 3) := by decide +kernel
theorem d23_43 : decode (mB m23) 43 = .ok (.lreturn, 1) := by decide +kernel
theorem d23_44 : decode (mB m23) 44 = .ok (.iload_n 1, 1) := by decide +kernel
theorem d23_45 : decode (mB m23) 45 = .ok (.iconst 5, 1) := by decide +kernel
theorem d23_46 : decode (mB m23) 46 = .ok (.if_icmp .ne 7, 3) := by decide +kernel
theorem d23_49 : decode (mB m23) 49 = .ok (.ldc2_w 170, 3) := by decide +kernel
theorem d23_52 : decode (mB m23) 52 = .ok (.lreturn, 1) := by decide +kernel
theorem d23_53 : decode (mB m23) 53 = .ok (.iload_n 1, 1) := by decide +kernel
theorem d23_54 : decode (mB m23) 54 = .ok (.bipush 6, 2) := by decide +kernel
theorem d23_56 : decode (mB m23) 56 = .ok (.if_icmp .ne 5, 3) := by decide +kernel
theorem d23_59 : decode (mB m23) 59 = .ok (.lconst 1, 1) := by decide +kernel
theorem d23_60 : decode (mB m23) 60 = .ok (.lreturn, 1) := by decide +kernel
theorem d23_61 : decode (mB m23) 61 = .ok (.lconst 0, 1) := by decide +kernel
theorem d23_62 : decode (mB m23) 62 = .ok (.lreturn, 1) := by decide +kernel
theorem d24_0 : decode (mB m24) 0 = .ok (.aload_n 0, 1) := by decide +kernel
theorem d24_1 : decode (mB m24) 1 = .ok (.getfield 141, 3) := by decide +kernel
theorem d24_4 : decode (mB m24) 4 = .ok (.ifCond .ne 4, 3) := by decide +kernel
theorem d24_7 : decode (mB m24) 7 = .ok (.return_, 1) := by decide +kernel
theorem d24_8 : decode (mB m24) 8 = .ok (.aload_n 0, 1) := by decide +kernel
theorem d24_9 : decode (mB m24) 9 = .ok (.getfield 54, 3) := by decide +kernel
theorem d24_12 : decode (mB m24) 12 = .ok (.lstore_n 1, 1) := by decide +kernel
theorem d24_13 : decode (mB m24) 13 = .ok (.aload_n 0, 1) := by decide +kernel
theorem d24_14 : decode (mB m24) 14 = .ok (.getfield 32, 3) := by decide +kernel
theorem d24_17 : decode (mB m24) 17 = .ok (.iconst 0, 1) := by decide +kernel
theorem d24_18 : decode (mB m24) 18 = .ok (.lload_n 1, 1) := by decide +kernel
theorem d24_19 : decode (mB m24) 19 = .ok (.lastore, 1) := by decide +kernel
theorem d24_20 : decode (mB m24) 20 = .ok (.iconst 1, 1) := by decide +kernel
theorem d24_21 : decode (mB m24) 21 = .ok (.istore_n 3, 1) := by decide +kernel
theorem d24_22 : decode (mB m24) 22 = .ok (.iload_n 3, 1) := by decide +kernel
theorem d24_23 : decode (mB m24) 23 = .ok (.bipush 6, 2) := by decide +kernel
theorem d24_25 : decode (mB m24) 25 = .ok (.if_icmp .gt 40, 3) := by decide +kernel
theorem d24_28 : decode (mB m24) 28 = .ok (.iconst 1, 1) := by decide +kernel
theorem d24_29 : decode (mB m24) 29 = .ok (.iload_n 3, 1) := by decide +kernel
theorem d24_30 : decode (mB m24) 30 = .ok (.iconst 1, 1) := by decide +kernel
theorem d24_31 : decode (mB m24) 31 = .ok (.isub, 1) := by decide +kernel
theorem d24_32 : decode (mB m24) 32 = .ok (.ishl, 1) := by decide +kernel
theorem d24_33 : decode (mB m24) 33 = .ok (.istore 4, 2) := by decide +kernel
theorem d24_35 : decode (mB m24) 35 = .ok (.aload_n 0, 1) := by decide +kernel
theorem d24_36 : decode (mB m24) 36 = .ok (.iload_n 3, 1) := by decide +kernel
theorem d24_37 : decode (mB m24) 37 = .ok (.invokevirtual 159, 3) := by decide +kernel
theorem d24_40 : decode (mB m24) 40 = .ok (.lstore 5, 2) := by decide +kernel
theorem d24_42 : decode (mB m24) 42 = .ok (.lload_n 1, 1) := by decide +kernel
theorem d24_43 : decode (mB m24) 43 = .ok (.lload_n 1, 1) := by decide +kernel
theorem d24_44 : decode (mB m24) 44 = .ok (.iload 4, 2) := by decide +kernel
theorem d24_46 : decode (mB m24) 46 = .ok (.lushr, 1) := by decide +kernel
theorem d24_47 : decode (mB m24) 47 = .ok (.land, 1) := by decide +kernel
theorem d24_48 : decode (mB m24) 48 = .ok (.lload 5, 2) := by decide +kernel
theorem d24_50 : decode (mB m24) 50 = .ok (.land, 1) := by decide +kernel
theorem d24_51 : decode (mB m24) 51 = .ok (.lstore_n 1, 1) := by decide +kernel
theorem d24_52 : decode (mB m24) 52 = .ok (.aload_n 0, 1) := by decide +kernel
theorem d24_53 : decode (mB m24) 53 = .ok (.getfield 32, 3) := by decide +kernel
theorem d24_56 : decode (mB m24) 56 = .ok (.iload_n 3, 1) := by decide +kernel
theorem d24_57 : decode (mB m24) 57 = .ok (.lload_n 1, 1) := by decide +kernel
theorem d24_58 : decode (mB m24) 58 = .ok (.lastore, 1) := by decide +kernel
theorem d24_59 : decode (mB m24) 59 = .ok (.iinc 3 1, 3) := by decide +kernel
theorem d24_62 : decode (mB m24) 62 = .ok (.goto (-40), 3) := by decide +kernel
theorem d24_65 : decode (mB m24) 65 = .ok (.aload_n 0, 1) := by decide +kernel
theorem d24_66 : decode (mB m24) 66 = .ok (.iconst 0, 1) := by decide +kernel
theorem d24_67 : decode (mB m24) 67 = .ok (.putfield 141, 3) := by decide +kernel
theorem d24_70 : decode (mB m24) 70 = .ok (.return_, 1) := by decide +kernel
theorem d25_0 : decode (mB m25) 0 = .ok (.iload_n 1, 1) := by decide +kernel
theorem d25_1 : decode (mB m25) 1 = .ok (.ifCond .lt 9, 3) := by decide +kernel
theorem d25_4 : decode (mB m25) 4 = .ok (.iload_n 1, 1) := by decide +kernel
theorem d25_5 : decode (mB m25) 5 = .ok (.bipush 6, 2) := by decide +kernel
theorem d25_7 : decode (mB m25) 7 = .ok (.if_icmp .le 5, 3) := by decide +kernel
theorem d25_10 : decode (mB m25) 10 = .ok (.lconst 0, 1) := by decide +kernel
theorem d25_11 : decode (mB m25) 11 = .ok (.lreturn, 1) := by decide +kernel
theorem d25_12 : decode (mB m25) 12 = .ok (.aload_n 0, 1) := by decide +kernel
theorem d25_13 : decode (mB m25) 13 = .ok (.invokevirtual 126, 3) := by decide +kernel
theorem d25_16 : decode (mB m25) 16 = .ok (.aload_n 0, 1) := by decide +kernel
theorem d25_17 : decode (mB m25) 17 = .ok (.getfield 32, 3) := by decide +kernel
theorem d25_20 : decode (mB m25) 20 = .ok (.iload_n 1, 1) := by decide +kernel
theorem d25_21 : decode (mB m25) 21 = .ok (.laload, 1) := by decide +kernel
theorem d25_22 : decode (mB m25) 22 = .ok (.lreturn, 1) := by decide +kernel
theorem d26_0 : decode (mB m26) 0 = .ok (.aload_n 0, 1) := by decide +kernel
theorem d26_1 : decode (mB m26) 1 = .ok (.iload_n 1, 1) := by decide +kernel
theorem d26_2 : decode (mB m26) 2 = .ok (.invokevirtual 62, 3) := by decide +kernel
theorem d26_5 : decode (mB m26) 5 = .ok (.ifCond .ne 4, 3) := by decide +kernel
theorem d26_8 : decode (mB m26) 8 = .ok (.return_, 1) := by decide +kernel
theorem d26_9 : decode (mB m26) 9 = .ok (.aload_n 0, 1) := by decide +kernel
theorem d26_10 : decode (mB m26) 10 = .ok (.getfield 13, 3) := by decide +kernel
theorem d26_13 : decode (mB m26) 13 = .ok (.iload_n 1, 1) := by decide +kernel
theorem d26_14 : decode (mB m26) 14 = .ok (.iconst 0, 1) := by decide +kernel
theorem d26_15 : decode (mB m26) 15 = .ok (.iastore, 1) := by decide +kernel
theorem d26_16 : decode (mB m26) 16 = .ok (.aload_n 0, 1) := by decide +kernel
theorem d26_17 : decode (mB m26) 17 = .ok (.getfield 17, 3) := by decide +kernel
theorem d26_20 : decode (mB m26) 20 = .ok (.iload_n 1, 1) := by decide +kernel
theorem d26_21 : decode (mB m26) 21 = .ok (.iconst 0, 1) := by decide +kernel
theorem d26_22 : decode (mB m26) 22 = .ok (.iastore, 1) := by decide +kernel
theorem d26_23 : decode (mB m26) 23 = .ok (.aload_n 0, 1) := by decide +kernel
theorem d26_24 : decode (mB m26) 24 = .ok (.getfield 23, 3) := by decide +kernel
theorem d26_27 : decode (mB m26) 27 = .ok (.iload_n 1, 1) := by decide +kernel
theorem d26_28 : decode (mB m26) 28 = .ok (.iconst (-1), 1) := by decide +kernel
theorem d26_29 : decode (mB m26) 29 = .ok (.iastore, 1) := by decide +kernel
theorem d26_30 : decode (mB m26) 30 = .ok (.aload_n 0, 1) := by decide +kernel
theorem d26_31 : decode (mB m26) 31 = .ok (.iload_n 1, 1) := by decide +kernel
theorem d26_32 : decode (mB m26) 32 = .ok (.iconst 3, 1) := by decide +kernel
theorem d26_33 : decode (mB m26) 33 = .ok (.invokevirtual 69, 3) := by decide +kernel
theorem d26_36 : decode (mB m26) 36 = .ok (.return_, 1) := by decide +kernel
theorem d27_0 : decode (mB m27) 0 = .ok (.iconst 1, 1) := by decide +kernel
theorem d27_1 : decode (mB m27) 1 = .ok (.iload_n 2, 1) := by decide +kernel
theorem d27_2 : decode (mB m27) 2 = .ok (.ishl, 1) := by decide +kernel
theorem d27_3 : decode (mB m27) 3 = .ok (.istore_n 3, 1) := by decide +kernel
theorem d27_4 : decode (mB m27) 4 = .ok (.iconst 0, 1) := by decide +kernel
theorem d27_5 : decode (mB m27) 5 = .ok (.istore 4, 2) := by decide +kernel
theorem d27_7 : decode (mB m27) 7 = .ok (.iload 4, 2) := by decide +kernel
theorem d27_9 : decode (mB m27) 9 = .ok (.iload_n 3, 1) := by decide +kernel
theorem d27_10 : decode (mB m27) 10 = .ok (.if_icmp .ge 24, 3) := by decide +kernel
theorem d27_13 : decode (mB m27) 13 = .ok (.iload 4, 2) := by decide +kernel
theorem d27_15 : decode (mB m27) 15 = .ok (.bipush 64, 2) := by decide +kernel
theorem d27_17 : decode (mB m27) 17 = .ok (.if_icmp .ge 17, 3) := by decide +kernel
theorem d27_20 : decode (mB m27) 20 = .ok (.aload_n 0, 1) := by decide +kernel
theorem d27_21 : decode (mB m27) 21 = .ok (.iload_n 1, 1) := by decide +kernel
theorem d27_22 : decode (mB m27) 22 = .ok (.iload 4, 2) := by decide +kernel
theorem d27_24 : decode (mB m27) 24 = .ok (.iadd, 1) := by decide +kernel
theorem d27_25 : decode (mB m27) 25 = .ok (.invokevirtual 150, 3) := by decide +kernel
theorem d27_28 : decode (mB m27) 28 = .ok (.iinc 4 1, 3) := by decide +kernel
theorem d27_31 : decode (mB m27) 31 = .ok (.goto (-24), 3) := by decide +kernel
theorem d27_34 : decode (mB m27) 34 = .ok (.return_, 1) := by decide +kernel
theorem d28_0 : decode (mB m28) 0 = .ok (.iload_n 1, 1) := by decide +kernel
theorem d28_1 : decode (mB m28) 1 = .ok (.ifCond .lt 9, 3) := by decide +kernel
theorem d28_4 : decode (mB m28) 4 = .ok (.iload_n 1, 1) := by decide +kernel
theorem d28_5 : decode (mB m28) 5 = .ok (.bipush 6, 2) := by decide +kernel
theorem d28_7 : decode (mB m28) 7 = .ok (.if_icmp .le 5, 3) := by decide +kernel
theorem d28_10 : decode (mB m28) 10 = .ok (.iconst (-1), 1) := by decide +kernel
theorem d28_11 : decode (mB m28) 11 = .ok (.ireturn, 1) := by decide +kernel
theorem d28_12 : decode (mB m28) 12 = .ok (.aload_n 0, 1) := by decide +kernel
theorem d28_13 : decode (mB m28) 13 = .ok (.iload_n 1, 1) := by decide +kernel
theorem d28_14 : decode (mB m28) 14 = .ok (.invokevirtual 91, 3) := by decide +kernel
theorem d28_17 : decode (mB m28) 17 = .ok (.lstore_n 2, 1) := by decide +kernel
theorem d28_18 : decode (mB m28) 18 = .ok (.lload_n 2, 1) := by decide +kernel
theorem d28_19 : decode (mB m28) 19 = .ok (.lconst 0, 1) := by decide +kernel
theorem d28_20 : decode (mB m28) 20 = .ok (.lcmp, 1) := by decide +kernel
theorem d28_21 : decode (mB m28) 21 = .ok (.ifCond .ne 6, 3) := by decide +kernel
theorem d28_24 : decode (mB m28) 24 = .ok (.bipush (-4), 2) := by decide +kernel
theorem d28_26 : decode (mB m28) 26 = .ok (.ireturn, 1) := by decide +kernel
theorem d28_27 : decode (mB m28) 27 = .ok (.aload_n 0, 1) := by decide +kernel
theorem d28_28 : decode (mB m28) 28 = .ok (.lload_n 2, 1) := by decide +kernel
theorem d28_29 : decode (mB m28) 29 = .ok (.invokevirtual 58, 3) := by decide +kernel
theorem d28_32 : decode (mB m28) 32 = .ok (.istore 4, 2) := by decide +kernel
theorem d28_34 : decode (mB m28) 34 = .ok (.aload_n 0, 1) := by decide +kernel
theorem d28_35 : decode (mB m28) 35 = .ok (.iload 4, 2) := by decide +kernel
theorem d28_37 : decode (mB m28) 37 = .ok (.invokevirtual 62, 3) := by decide +kernel
theorem d28_40 : decode (mB m28) 40 = .ok (.ifCond .ne 6, 3) := by decide +kernel
theorem d28_43 : decode (mB m28) 43 = .ok (.bipush (-4), 2) := by decide +kernel
theorem d28_45 : decode (mB m28) 45 = .ok (.ireturn, 1) := by decide +kernel
theorem d28_46 : decode (mB m28) 46 = .ok (.aload_n 0, 1) := by decide +kernel
theorem d28_47 : decode (mB m28) 47 = .ok (.iload 4, 2) := by decide +kernel
theorem d28_49 : decode (mB m28) 49 = .ok (.iload_n 1, 1) := by decide +kernel
theorem d28_50 : decode (mB m28) 50 = .ok (.invokevirtual 95, 3) := by decide +kernel
theorem d28_53 : decode (mB m28) 53 = .ok (.iload 4, 2) := by decide +kernel
theorem d28_55 : decode (mB m28) 55 = .ok (.ireturn, 1) := by decide +kernel
theorem d29_0 : decode (mB m29) 0 = .ok (.aload_n 0, 1) := by decide +kernel
theorem d29_1 : decode (mB m29) 1 = .ok (.iload_n 1, 1) := by decide +kernel
theorem d29_2 : decode (mB m29) 2 = .ok (.invokevirtual 62, 3) := by decide +kernel
theorem d29_5 : decode (mB m29) 5 = .ok (.ifCond .ne 5, 3) := by decide +kernel
theorem d29_8 : decode (mB m29) 8 = .ok (.iconst 0, 1) := by decide +kernel
theorem d29_9 : decode (mB m29) 9 = .ok (.ireturn, 1) := by decide +kernel
theorem d29_10 : decode (mB m29) 10 = .ok (.aload_n 0, 1) := by decide +kernel
theorem d29_11 : decode (mB m29) 11 = .ok (.getfield 7, 3) := by decide +kernel
theorem d29_14 : decode (mB m29) 14 = .ok (.iload_n 1, 1) := by decide +kernel
theorem d29_15 : decode (mB m29) 15 = .ok (.baload, 1) := by decide +kernel
theorem d29_16 : decode (mB m29) 16 = .ok (.iconst 3, 1) := by decide +kernel
theorem d29_17 : decode (mB m29) 17 = .ok (.if_icmp .eq 5, 3) := by decide +kernel
theorem d29_20 : decode (mB m29) 20 = .ok (.iconst 0, 1) := by decide +kernel
theorem d29_21 : decode (mB m29) 21 = .ok (.ireturn, 1) := by decide +kernel
theorem d29_22 : decode (mB m29) 22 = .ok (.aload_n 0, 1) := by decide +kernel
theorem d29_23 : decode (mB m29) 23 = .ok (.iload_n 1, 1) := by decide +kernel
theorem d29_24 : decode (mB m29) 24 = .ok (.invokevirtual 84, 3) := by decide +kernel
theorem d29_27 : decode (mB m29) 27 = .ok (.iconst 1, 1) := by decide +kernel
theorem d29_28 : decode (mB m29) 28 = .ok (.ireturn, 1) := by decide +kernel
theorem d30_0 : decode (mB m30) 0 = .ok (.iload_n 2, 1) := by decide +kernel
theorem d30_1 : decode (mB m30) 1 = .ok (.iload_n 1, 1) := by decide +kernel
theorem d30_2 : decode (mB m30) 2 = .ok (.if_icmp .gt 5, 3) := by decide +kernel
theorem d30_5 : decode (mB m30) 5 = .ok (.lconst 0, 1) := by decide +kernel
theorem d30_6 : decode (mB m30) 6 = .ok (.lreturn, 1) := by decide +kernel
theorem d30_7 : decode (mB m30) 7 = .ok (.aload_n 0, 1) := by decide +kernel
theorem d30_8 : decode (mB m30) 8 = .ok (.iload_n 2, 1) := by decide +kernel
theorem d30_9 : decode (mB m30) 9 = .ok (.invokevirtual 129, 3) := by decide +kernel
theorem d30_12 : decode (mB m30) 12 = .ok (.lstore_n 3, 1) := by decide +kernel
theorem d30_13 : decode (mB m30) 13 = .ok (.aload_n 0, 1) := by decide +kernel
theorem d30_14 : decode (mB m30) 14 = .ok (.iload_n 1, 1) := by decide +kernel
theorem d30_15 : decode (mB m30) 15 = .ok (.invokevirtual 129, 3) := by decide +kernel
theorem d30_18 : decode (mB m30) 18 = .ok (.lstore 5, 2) := by decide +kernel
theorem d30_20 : decode (mB m30) 20 = .ok (.lload_n 3, 1) := by decide +kernel
theorem d30_21 : decode (mB m30) 21 = .ok (.lload 5, 2) := by decide +kernel
theorem d30_23 : decode (mB m30) 23 = .ok (.ldc2_w 148, 3) := by decide +kernel
theorem d30_26 : decode (mB m30) 26 = .ok (.lxor, 1) := by decide +kernel
theorem d30_27 : decode (mB m30) 27 = .ok (.land, 1) := by decide +kernel
theorem d30_28 : decode (mB m30) 28 = .ok (.lreturn, 1) := by decide +kernel
theorem d31_0 : decode (mB m31) 0 = .ok (.aload_n 0, 1) := by decide +kernel
theorem d31_1 : decode (mB m31) 1 = .ok (.getfield 104, 3) := by decide +kernel
theorem d31_4 : decode (mB m31) 4 = .ok (.aload_n 0, 1) := by decide +kernel
theorem d31_5 : decode (mB m31) 5 = .ok (.getfield 107, 3) := by decide +kernel
theorem d31_8 : decode (mB m31) 8 = .ok (.if_icmp .lt 4, 3) := by decide +kernel
theorem d31_11 : decode (mB m31) 11 = .ok (.return_, 1) := by decide +kernel
theorem d31_12 : decode (mB m31) 12 = .ok (.aload_n 0, 1) := by decide +kernel
theorem d31_13 : decode (mB m31) 13 = .ok (.aload_n 0, 1) := by decide +kernel
theorem d31_14 : decode (mB m31) 14 = .ok (.getfield 104, 3) := by decide +kernel
theorem d31_17 : decode (mB m31) 17 = .ok (.aload_n 0, 1) := by decide +kernel
theorem d31_18 : decode (mB m31) 18 = .ok (.getfield 107, 3) := by decide +kernel
theorem d31_21 : decode (mB m31) 21 = .ok (.invokevirtual 172, 3) := by decide +kernel
theorem d31_24 : decode (mB m31) 24 = .ok (.lstore_n 1, 1) := by decide +kernel
theorem d31_25 : decode (mB m31) 25 = .ok (.aload_n 0, 1) := by decide +kernel
theorem d31_26 : decode (mB m31) 26 = .ok (.getfield 132, 3) := by decide +kernel
theorem d31_29 : decode (mB m31) 29 = .ok (.lload_n 1, 1) := by decide +kernel
theorem d31_30 : decode (mB m31) 30 = .ok (.land, 1) := by decide +kernel
theorem d31_31 : decode (mB m31) 31 = .ok (.lstore_n 3, 1) := by decide +kernel
theorem d31_32 : decode (mB m31) 32 = .ok (.lload_n 3, 1) := by decide +kernel
theorem d31_33 : decode (mB m31) 33 = .ok (.lconst 0, 1) := by decide +kernel
theorem d31_34 : decode (mB m31) 34 = .ok (.lcmp, 1) := by decide +kernel
theorem d31_35 : decode (mB m31) 35 = .ok (.ifCond .ne 14, 3) := by decide +kernel
theorem d31_38 : decode (mB m31) 38 = .ok (.aload_n 0, 1) := by decide +kernel
theorem d31_39 : decode (mB m31) 39 = .ok (.aload_n 0, 1) := by decide +kernel
theorem d31_40 : decode (mB m31) 40 = .ok (.getfield 107, 3) := by decide +kernel
theorem d31_43 : decode (mB m31) 43 = .ok (.putfield 104, 3) := by decide +kernel
theorem d31_46 : decode (mB m31) 46 = .ok (.goto 12, 3) := by decide +kernel
theorem d31_49 : decode (mB m31) 49 = .ok (.aload_n 0, 1) := by decide +kernel
theorem d31_50 : decode (mB m31) 50 = .ok (.aload_n 0, 1) := by decide +kernel
theorem d31_51 : decode (mB m31) 51 = .ok (.lload_n 3, 1) := by decide +kernel
theorem d31_52 : decode (mB m31) 52 = .ok (.invokevirtual 58, 3) := by decide +kernel
theorem d31_55 : decode (mB m31) 55 = .ok (.putfield 104, 3) := by decide +kernel
theorem d31_58 : decode (mB m31) 58 = .ok (.return_, 1) := by decide +kernel
theorem d32_0 : decode (mB m32) 0 = .ok (.lload_n 1, 1) := by decide +kernel
theorem d32_1 : decode (mB m32) 1 = .ok (.lconst 0, 1) := by decide +kernel
theorem d32_2 : decode (mB m32) 2 = .ok (.lcmp, 1) := by decide +kernel
theorem d32_3 : decode (mB m32) 3 = .ok (.ifCond .ne 5, 3) := by decide +kernel
theorem d32_6 : decode (mB m32) 6 = .ok (.iconst (-1), 1) := by decide +kernel
theorem d32_7 : decode (mB m32) 7 = .ok (.ireturn, 1) := by decide +kernel
theorem d32_8 : decode (mB m32) 8 = .ok (.iconst 0, 1) := by decide +kernel
theorem d32_9 : decode (mB m32) 9 = .ok (.istore_n 3, 1) := by decide +kernel
theorem d32_10 : decode (mB m32) 10 = .ok (.lload_n 1, 1) := by decide +kernel
theorem d32_11 : decode (mB m32) 11 = .ok (.lstore 4, 2) := by decide +kernel
theorem d32_13 : decode (mB m32) 13 = .ok (.lload 4, 2) := by decide +kernel
theorem d32_15 : decode (mB m32) 15 = .ok (.bipush 32, 2) := by decide +kernel
theorem d32_17 : decode (mB m32) 17 = .ok (.lushr, 1) := by decide +kernel
theorem d32_18 : decode (mB m32) 18 = .ok (.lconst 0, 1) := by decide +kernel
theorem d32_19 : decode (mB m32) 19 = .ok (.lcmp, 1) := by decide +kernel
theorem d32_20 : decode (mB m32) 20 = .ok (.ifCond .eq 13, 3) := by decide +kernel
theorem d32_23 : decode (mB m32) 23 = .ok (.iinc 3 32, 3) := by decide +kernel
theorem d32_26 : decode (mB m32) 26 = .ok (.lload 4, 2) := by decide +kernel
theorem d32_28 : decode (mB m32) 28 = .ok (.bipush 32, 2) := by decide +kernel
theorem d32_30 : decode (mB m32) 30 = .ok (.lushr, 1) := by decide +kernel
theorem d32_31 : decode (mB m32) 31 = .ok (.lstore 4, 2) := by decide +kernel
theorem d32_33 : decode (mB m32) 33 = .ok (.lload 4, 2) := by decide +kernel
theorem d32_35 : decode (mB m32) 35 = .ok (.bipush 16, 2) := by decide +kernel
theorem d32_37 : decode (mB m32) 37 = .ok (.lushr, 1) := by decide +kernel
theorem d32_38 : decode (mB m32) 38 = .ok (.lconst 0, 1) := by decide +kernel
theorem d32_39 : decode (mB m32) 39 = .ok (.lcmp, 1) := by decide +kernel
theorem d32_40 : decode (mB m32) 40 = .ok (.ifCond .eq 13, 3) := by decide +kernel
theorem d32_43 : decode (mB m32) 43 = .ok (.iinc 3 16, 3) := by decide +kernel
theorem d32_46 : decode (mB m32) 46 = .ok (.lload 4, 2) := by decide +kernel
theorem d32_48 : decode (mB m32) 48 = .ok (.bipush 16, 2) := by decide +kernel
theorem d32_50 : decode (mB m32) 50 = .ok (.lushr, 1) := by decide +kernel
theorem d32_51 : decode (mB m32) 51 = .ok (.lstore 4, 2) := by decide +kernel
theorem d32_53 : decode (mB m32) 53 = .ok (.lload 4, 2) := by decide +kernel
theorem d32_55 : decode (mB m32) 55 = .ok (.bipush 8, 2) := by decide +kernel
theorem d32_57 : decode (mB m32) 57 = .ok (.lushr, 1) := by decide +kernel
theorem d32_58 : decode (mB m32) 58 = .ok (.lconst 0, 1) := by decide +kernel
theorem d32_59 : decode (mB m32) 59 = .ok (.lcmp, 1) := by decide +kernel
theorem d32_60 : decode (mB m32) 60 = .ok (.ifCond .eq 13, 3) := by decide +kernel
theorem d32_63 : decode (mB m32) 63 = .ok (.iinc 3 8, 3) := by decide +kernel
theorem d32_66 : decode (mB m32) 66 = .ok (.lload 4, 2) := by decide +kernel
theorem d32_68 : decode (mB m32) 68 = .ok (.bipush 8, 2) := by decide +kernel
theorem d32_70 : decode (mB m32) 70 = .ok (.lushr, 1) := by decide +kernel
theorem d32_71 : decode (mB m32) 71 = .ok (.lstore 4, 2) := by decide +kernel
theorem d32_73 : decode (mB m32) 73 = .ok (.lload 4, 2) := by decide +kernel
theorem d32_75 : decode (mB m32) 75 = .ok (.iconst 4, 1) := by decide +kernel
theorem d32_76 : decode (mB m32) 76 = .ok (.lushr, 1) := by decide +kernel
theorem d32_77 : decode (mB m32) 77 = .ok (.lconst 0, 1) := by decide +kernel
theorem d32_78 : decode (mB m32) 78 = .ok (.lcmp, 1) := by decide +kernel
theorem d32_79 : decode (mB m32) 79 = .ok (.ifCond .eq 12, 3) := by decide +kernel
theorem d32_82 : decode (mB m32) 82 = .ok (.iinc 3 4, 3) := by decide +kernel
theorem d32_85 : decode (mB m32) 85 = .ok (.lload 4, 2) := by decide +kernel
theorem d32_87 : decode (mB m32) 87 = .ok (.iconst 4, 1) := by decide +kernel
theorem d32_88 : decode (mB m32) 88 = .ok (.lushr, 1) := by decide +kernel
theorem d32_89 : decode (mB m32) 89 = .ok (.lstore 4, 2) := by decide +kernel
theorem d32_91 : decode (mB m32) 91 = .ok (.lload 4, 2) := by decide +kernel
theorem d32_93 : decode (mB m32) 93 = .ok (.iconst 2, 1) := by decide +kernel
theorem d32_94 : decode (mB m32) 94 = .ok (.lushr, 1) := by decide +kernel
theorem d32_95 : decode (mB m32) 95 = .ok (.lconst 0, 1) := by decide +kernel
theorem d32_96 : decode (mB m32) 96 = .ok (.lcmp, 1) := by decide +kernel
theorem d32_97 : decode (mB m32) 97 = .ok (.ifCond .eq 12, 3) := by decide +kernel
theorem d32_100 : decode (mB m32) 100 = .ok (.iinc 3 2, 3) := by decide +kernel
theorem d32_103 : decode (mB m32) 103 = .ok (.lload 4, 2) := by decide +kernel
theorem d32_105 : decode (mB m32) 105 = .ok (.iconst 2, 1) := by decide +kernel
theorem d32_106 : decode (mB m32) 106 = .ok (.lushr, 1) := by decide +kernel
theorem d32_107 : decode (mB m32) 107 = .ok (.lstore 4, 2) := by decide +kernel
theorem d32_109 : decode (mB m32) 109 = .ok (.lload 4, 2) := by decide +kernel
theorem d32_111 : decode (mB m32) 111 = .ok (.iconst 1, 1) := by decide +kernel
theorem d32_112 : decode (mB m32) 112 = .ok (.lushr, 1) := by decide +kernel
theorem d32_113 : decode (mB m32) 113 = .ok (.lconst 0, 1) := by decide +kernel
theorem d32_114 : decode (mB m32) 114 = .ok (.lcmp, 1) := by decide +kernel
theorem d32_115 : decode (mB m32) 115 = .ok (.ifCond .eq 6, 3) := by decide +kernel
theorem d32_118 : decode (mB m32) 118 = .ok (.iinc 3 1, 3) := by decide +kernel
theorem d32_121 : decode (mB m32) 121 = .ok (.iload_n 3, 1) := by decide +kernel
theorem d32_122 : decode (mB m32) 122 = .ok (.ireturn, 1) := by decide +kernel
theorem d33_0 : decode (mB m33) 0 = .ok (.aload_n 0, 1) := by decide +kernel
theorem d33_1 : decode (mB m33) 1 = .ok (.getfield 107, 3) := by decide +kernel
theorem d33_4 : decode (mB m33) 4 = .ok (.aload_n 0, 1) := by decide +kernel
theorem d33_5 : decode (mB m33) 5 = .ok (.getfield 104, 3) := by decide +kernel
theorem d33_8 : decode (mB m33) 8 = .ok (.if_icmp .gt 4, 3) := by decide +kernel
theorem d33_11 : decode (mB m33) 11 = .ok (.return_, 1) := by decide +kernel
theorem d33_12 : decode (mB m33) 12 = .ok (.aload_n 0, 1) := by decide +kernel
theorem d33_13 : decode (mB m33) 13 = .ok (.aload_n 0, 1) := by decide +kernel
theorem d33_14 : decode (mB m33) 14 = .ok (.getfield 104, 3) := by decide +kernel
theorem d33_17 : decode (mB m33) 17 = .ok (.iconst 1, 1) := by decide +kernel
theorem d33_18 : decode (mB m33) 18 = .ok (.iadd, 1) := by decide +kernel
theorem d33_19 : decode (mB m33) 19 = .ok (.aload_n 0, 1) := by decide +kernel
theorem d33_20 : decode (mB m33) 20 = .ok (.getfield 107, 3) := by decide +kernel
theorem d33_23 : decode (mB m33) 23 = .ok (.iconst 1, 1) := by decide +kernel
theorem d33_24 : decode (mB m33) 24 = .ok (.iadd, 1) := by decide +kernel
theorem d33_25 : decode (mB m33) 25 = .ok (.invokevirtual 172, 3) := by decide +kernel
theorem d33_28 : decode (mB m33) 28 = .ok (.lstore_n 1, 1) := by decide +kernel
theorem d33_29 : decode (mB m33) 29 = .ok (.aload_n 0, 1) := by decide +kernel
theorem d33_30 : decode (mB m33) 30 = .ok (.getfield 54, 3) := by decide +kernel
theorem d33_33 : decode (mB m33) 33 = .ok (.lload_n 1, 1) := by decide +kernel
theorem d33_34 : decode (mB m33) 34 = .ok (.land, 1) := by decide +kernel
theorem d33_35 : decode (mB m33) 35 = .ok (.lstore_n 3, 1) := by decide +kernel
theorem d33_36 : decode (mB m33) 36 = .ok (.lload_n 3, 1) := by decide +kernel
theorem d33_37 : decode (mB m33) 37 = .ok (.lconst 0, 1) := by decide +kernel
theorem d33_38 : decode (mB m33) 38 = .ok (.lcmp, 1) := by decide +kernel
theorem d33_39 : decode (mB m33) 39 = .ok (.ifCond .ne 14, 3) := by decide +kernel
theorem d33_42 : decode (mB m33) 42 = .ok (.aload_n 0, 1) := by decide +kernel
theorem d33_43 : decode (mB m33) 43 = .ok (.aload_n 0, 1) := by decide +kernel
theorem d33_44 : decode (mB m33) 44 = .ok (.getfield 104, 3) := by decide +kernel
theorem d33_47 : decode (mB m33) 47 = .ok (.putfield 107, 3) := by decide +kernel
theorem d33_50 : decode (mB m33) 50 = .ok (.goto 12, 3) := by decide +kernel
theorem d33_53 : decode (mB m33) 53 = .ok (.aload_n 0, 1) := by decide +kernel
theorem d33_54 : decode (mB m33) 54 = .ok (.aload_n 0, 1) := by decide +kernel
theorem d33_55 : decode (mB m33) 55 = .ok (.lload_n 3, 1) := by decide +kernel
theorem d33_56 : decode (mB m33) 56 = .ok (.invokevirtual 176, 3) := by decide +kernel
theorem d33_59 : decode (mB m33) 59 = .ok (.putfield 107, 3) := by decide +kernel
theorem d33_62 : decode (mB m33) 62 = .ok (.return_, 1) := by decide +kernel
theorem d34_0 : decode (mB m34) 0 = .ok (.aload_n 0, 1) := by decide +kernel
theorem d34_1 : decode (mB m34) 1 = .ok (.getfield 104, 3) := by decide +kernel
theorem d34_4 : decode (mB m34) 4 = .ok (.aload_n 0, 1) := by decide +kernel
theorem d34_5 : decode (mB m34) 5 = .ok (.getfield 107, 3) := by decide +kernel
theorem d34_8 : decode (mB m34) 8 = .ok (.if_icmp .lt 5, 3) := by decide +kernel
theorem d34_11 : decode (mB m34) 11 = .ok (.iconst 1, 1) := by decide +kernel
theorem d34_12 : decode (mB m34) 12 = .ok (.ireturn, 1) := by decide +kernel
theorem d34_13 : decode (mB m34) 13 = .ok (.aload_n 0, 1) := by decide +kernel
theorem d34_14 : decode (mB m34) 14 = .ok (.getfield 101, 3) := by decide +kernel
theorem d34_17 : decode (mB m34) 17 = .ok (.aload_n 0, 1) := by decide +kernel
theorem d34_18 : decode (mB m34) 18 = .ok (.getfield 98, 3) := by decide +kernel
theorem d34_21 : decode (mB m34) 21 = .ok (.if_icmp .ne 7, 3) := by decide +kernel
theorem d34_24 : decode (mB m34) 24 = .ok (.iconst 1, 1) := by decide +kernel
theorem d34_25 : decode (mB m34) 25 = .ok (.goto 4, 3) := by decide +kernel
theorem d34_28 : decode (mB m34) 28 = .ok (.iconst 0, 1) := by decide +kernel
theorem d34_29 : decode (mB m34) 29 = .ok (.ireturn, 1) := by decide +kernel
theorem d35_0 : decode (mB m35) 0 = .ok (.aload_n 0, 1) := by decide +kernel
theorem d35_1 : decode (mB m35) 1 = .ok (.getfield 23, 3) := by decide +kernel
theorem d35_4 : decode (mB m35) 4 = .ok (.iload_n 1, 1) := by decide +kernel
theorem d35_5 : decode (mB m35) 5 = .ok (.iaload, 1) := by decide +kernel
theorem d35_6 : decode (mB m35) 6 = .ok (.istore_n 3, 1) := by decide +kernel
theorem d35_7 : decode (mB m35) 7 = .ok (.iconst 0, 1) := by decide +kernel
theorem d35_8 : decode (mB m35) 8 = .ok (.istore 4, 2) := by decide +kernel
theorem d35_10 : decode (mB m35) 10 = .ok (.iload 4, 2) := by decide +kernel
theorem d35_12 : decode (mB m35) 12 = .ok (.bipush 64, 2) := by decide +kernel
theorem d35_14 : decode (mB m35) 14 = .ok (.if_icmp .ge 33, 3) := by decide +kernel
theorem d35_17 : decode (mB m35) 17 = .ok (.iload_n 3, 1) := by decide +kernel
theorem d35_18 : decode (mB m35) 18 = .ok (.ifCond .lt 29, 3) := by decide +kernel
theorem d35_21 : decode (mB m35) 21 = .ok (.iload_n 3, 1) := by decide +kernel
theorem d35_22 : decode (mB m35) 22 = .ok (.bipush 64, 2) := by decide +kernel
theorem d35_24 : decode (mB m35) 24 = .ok (.if_icmp .ge 23, 3) := by decide +kernel
theorem d35_27 : decode (mB m35) 27 = .ok (.aload_n 0, 1) := by decide +kernel
theorem d35_28 : decode (mB m35) 28 = .ok (.getfield 20, 3) := by decide +kernel
theorem d35_31 : decode (mB m35) 31 = .ok (.iload_n 3, 1) := by decide +kernel
theorem d35_32 : decode (mB m35) 32 = .ok (.iload_n 2, 1) := by decide +kernel
theorem d35_33 : decode (mB m35) 33 = .ok (.iastore, 1) := by decide +kernel
theorem d35_34 : decode (mB m35) 34 = .ok (.aload_n 0, 1) := by decide +kernel
theorem d35_35 : decode (mB m35) 35 = .ok (.getfield 26, 3) := by decide +kernel
theorem d35_38 : decode (mB m35) 38 = .ok (.iload_n 3, 1) := by decide +kernel
theorem d35_39 : decode (mB m35) 39 = .ok (.iaload, 1) := by decide +kernel
theorem d35_40 : decode (mB m35) 40 = .ok (.istore_n 3, 1) := by decide +kernel
theorem d35_41 : decode (mB m35) 41 = .ok (.iinc 4 1, 3) := by decide +kernel
theorem d35_44 : decode (mB m35) 44 = .ok (.goto (-34), 3) := by decide +kernel
theorem d35_47 : decode (mB m35) 47 = .ok (.aload_n 0, 1) := by decide +kernel
theorem d35_48 : decode (mB m35) 48 = .ok (.getfield 23, 3) := by decide +kernel
theorem d35_51 : decode (mB m35) 51 = .ok (.iload_n 2, 1) := by decide +kernel
theorem d35_52 : decode (mB m35) 52 = .ok (.aload_n 0, 1) := by decide +kernel
theorem d35_53 : decode (mB m35) 53 = .ok (.getfield 23, 3) := by decide +kernel
theorem d35_56 : decode (mB m35) 56 = .ok (.iload_n 1, 1) := by decide +kernel
theorem d35_57 : decode (mB m35) 57 = .ok (.iaload, 1) := by decide +kernel
theorem d35_58 : decode (mB m35) 58 = .ok (.iastore, 1) := by decide +kernel
theorem d35_59 : decode (mB m35) 59 = .ok (.aload_n 0, 1) := by decide +kernel
theorem d35_60 : decode (mB m35) 60 = .ok (.getfield 23, 3) := by decide +kernel
theorem d35_63 : decode (mB m35) 63 = .ok (.iload_n 1, 1) := by decide +kernel
theorem d35_64 : decode (mB m35) 64 = .ok (.iconst (-1), 1) := by decide +kernel
theorem d35_65 : decode (mB m35) 65 = .ok (.iastore, 1) := by decide +kernel
theorem d35_66 : decode (mB m35) 66 = .ok (.return_, 1) := by decide +kernel
theorem d36_0 : decode (mB m36) 0 = .ok (.aload_n 0, 1) := by decide +kernel
theorem d36_1 : decode (mB m36) 1 = .ok (.iload_n 1, 1) := by decide +kernel
theorem d36_2 : decode (mB m36) 2 = .ok (.invokevirtual 62, 3) := by decide +kernel
theorem d36_5 : decode (mB m36) 5 = .ok (.ifCond .eq 11, 3) := by decide +kernel
theorem d36_8 : decode (mB m36) 8 = .ok (.aload_n 0, 1) := by decide +kernel
theorem d36_9 : decode (mB m36) 9 = .ok (.iload_n 2, 1) := by decide +kernel
theorem d36_10 : decode (mB m36) 10 = .ok (.invokevirtual 62, 3) := by decide +kernel
theorem d36_13 : decode (mB m36) 13 = .ok (.ifCond .ne 4, 3) := by decide +kernel
theorem d36_16 : decode (mB m36) 16 = .ok (.return_, 1) := by decide +kernel
theorem d36_17 : decode (mB m36) 17 = .ok (.aload_n 0, 1) := by decide +kernel
theorem d36_18 : decode (mB m36) 18 = .ok (.getfield 7, 3) := by decide +kernel
theorem d36_21 : decode (mB m36) 21 = .ok (.iload_n 1, 1) := by decide +kernel
theorem d36_22 : decode (mB m36) 22 = .ok (.baload, 1) := by decide +kernel
theorem d36_23 : decode (mB m36) 23 = .ok (.iconst 1, 1) := by decide +kernel
theorem d36_24 : decode (mB m36) 24 = .ok (.if_icmp .ne 12, 3) := by decide +kernel
theorem d36_27 : decode (mB m36) 27 = .ok (.aload_n 0, 1) := by decide +kernel
theorem d36_28 : decode (mB m36) 28 = .ok (.getfield 7, 3) := by decide +kernel
theorem d36_31 : decode (mB m36) 31 = .ok (.iload_n 2, 1) := by decide +kernel
theorem d36_32 : decode (mB m36) 32 = .ok (.baload, 1) := by decide +kernel
theorem d36_33 : decode (mB m36) 33 = .ok (.ifCond .eq 4, 3) := by decide +kernel
theorem d36_36 : decode (mB m36) 36 = .ok (.return_, 1) := by decide +kernel
theorem d36_37 : decode (mB m36) 37 = .ok (.aload_n 0, 1) := by decide +kernel
theorem d36_38 : decode (mB m36) 38 = .ok (.getfield 13, 3) := by decide +kernel
theorem d36_41 : decode (mB m36) 41 = .ok (.iload_n 1, 1) := by decide +kernel
theorem d36_42 : decode (mB m36) 42 = .ok (.iaload, 1) := by decide +kernel
theorem d36_43 : decode (mB m36) 43 = .ok (.istore_n 3, 1) := by decide +kernel
theorem d36_44 : decode (mB m36) 44 = .ok (.aload_n 0, 1) := by decide +kernel
theorem d36_45 : decode (mB m36) 45 = .ok (.getfield 17, 3) := by decide +kernel
theorem d36_48 : decode (mB m36) 48 = .ok (.iload_n 1, 1) := by decide +kernel
theorem d36_49 : decode (mB m36) 49 = .ok (.iaload, 1) := by decide +kernel
theorem d36_50 : decode (mB m36) 50 = .ok (.istore 4, 2) := by decide +kernel
theorem d36_52 : decode (mB m36) 52 = .ok (.aload_n 0, 1) := by decide +kernel
theorem d36_53 : decode (mB m36) 53 = .ok (.iload_n 2, 1) := by decide +kernel
theorem d36_54 : decode (mB m36) 54 = .ok (.iconst 1, 1) := by decide +kernel
theorem d36_55 : decode (mB m36) 55 = .ok (.invokevirtual 69, 3) := by decide +kernel
theorem d36_58 : decode (mB m36) 58 = .ok (.aload_n 0, 1) := by decide +kernel
theorem d36_59 : decode (mB m36) 59 = .ok (.getfield 13, 3) := by decide +kernel
theorem d36_62 : decode (mB m36) 62 = .ok (.iload_n 2, 1) := by decide +kernel
theorem d36_63 : decode (mB m36) 63 = .ok (.iload_n 3, 1) := by decide +kernel
theorem d36_64 : decode (mB m36) 64 = .ok (.iastore, 1) := by decide +kernel
theorem d36_65 : decode (mB m36) 65 = .ok (.aload_n 0, 1) := by decide +kernel
theorem d36_66 : decode (mB m36) 66 = .ok (.getfield 17, 3) := by decide +kernel
theorem d36_69 : decode (mB m36) 69 = .ok (.iload_n 2, 1) := by decide +kernel
theorem d36_70 : decode (mB m36) 70 = .ok (.iload 4, 2) := by decide +kernel
theorem d36_72 : decode (mB m36) 72 = .ok (.iastore, 1) := by decide +kernel
theorem d36_73 : decode (mB m36) 73 = .ok (.aload_n 0, 1) := by decide +kernel
theorem d36_74 : decode (mB m36) 74 = .ok (.iload_n 1, 1) := by decide +kernel
theorem d36_75 : decode (mB m36) 75 = .ok (.iload_n 2, 1) := by decide +kernel
theorem d36_76 : decode (mB m36) 76 = .ok (.invokevirtual 179, 3) := by decide +kernel
theorem d36_79 : decode (mB m36) 79 = .ok (.aload_n 0, 1) := by decide +kernel
theorem d36_80 : decode (mB m36) 80 = .ok (.iload_n 1, 1) := by decide +kernel
theorem d36_81 : decode (mB m36) 81 = .ok (.invokevirtual 84, 3) := by decide +kernel
theorem d36_84 : decode (mB m36) 84 = .ok (.return_, 1) := by decide +kernel
theorem d37_0 : decode (mB m37) 0 = .ok (.aload_n 0, 1) := by decide +kernel
theorem d37_1 : decode (mB m37) 1 = .ok (.aload_n 0, 1) := by decide +kernel
theorem d37_2 : decode (mB m37) 2 = .ok (.iload_n 1, 1) := by decide +kernel
theorem d37_3 : decode (mB m37) 3 = .ok (.iconst 0, 1) := by decide +kernel
theorem d37_4 : decode (mB m37) 4 = .ok (.bipush 64, 2) := by decide +kernel
theorem d37_6 : decode (mB m37) 6 = .ok (.invokevirtual 36, 3) := by decide +kernel
theorem d37_9 : decode (mB m37) 9 = .ok (.putfield 98, 3) := by decide +kernel
theorem d37_12 : decode (mB m37) 12 = .ok (.aload_n 0, 1) := by decide +kernel
theorem d37_13 : decode (mB m37) 13 = .ok (.iconst 0, 1) := by decide +kernel
theorem d37_14 : decode (mB m37) 14 = .ok (.putfield 101, 3) := by decide +kernel
theorem d37_17 : decode (mB m37) 17 = .ok (.aload_n 0, 1) := by decide +kernel
theorem d37_18 : decode (mB m37) 18 = .ok (.iconst 0, 1) := by decide +kernel
theorem d37_19 : decode (mB m37) 19 = .ok (.putfield 104, 3) := by decide +kernel
theorem d37_22 : decode (mB m37) 22 = .ok (.aload_n 0, 1) := by decide +kernel
theorem d37_23 : decode (mB m37) 23 = .ok (.aload_n 0, 1) := by decide +kernel
theorem d37_24 : decode (mB m37) 24 = .ok (.getfield 40, 3) := by decide +kernel
theorem d37_27 : decode (mB m37) 27 = .ok (.iconst 1, 1) := by decide +kernel
theorem d37_28 : decode (mB m37) 28 = .ok (.isub, 1) := by decide +kernel
theorem d37_29 : decode (mB m37) 29 = .ok (.putfield 107, 3) := by decide +kernel
theorem d37_32 : decode (mB m37) 32 = .ok (.iconst 0, 1) := by decide +kernel
theorem d37_33 : decode (mB m37) 33 = .ok (.istore_n 2, 1) := by decide +kernel
theorem d37_34 : decode (mB m37) 34 = .ok (.iload_n 2, 1) := by decide +kernel
theorem d37_35 : decode (mB m37) 35 = .ok (.bipush 65, 2) := by decide +kernel
theorem d37_37 : decode (mB m37) 37 = .ok (.if_icmp .gt 69, 3) := by decide +kernel
theorem d37_40 : decode (mB m37) 40 = .ok (.aload_n 0, 1) := by decide +kernel
theorem d37_41 : decode (mB m37) 41 = .ok (.invokevirtual 110, 3) := by decide +kernel
theorem d37_44 : decode (mB m37) 44 = .ok (.aload_n 0, 1) := by decide +kernel
theorem d37_45 : decode (mB m37) 45 = .ok (.invokevirtual 113, 3) := by decide +kernel
theorem d37_48 : decode (mB m37) 48 = .ok (.aload_n 0, 1) := by decide +kernel
theorem d37_49 : decode (mB m37) 49 = .ok (.invokevirtual 116, 3) := by decide +kernel
theorem d37_52 : decode (mB m37) 52 = .ok (.ifCond .eq 6, 3) := by decide +kernel
theorem d37_55 : decode (mB m37) 55 = .ok (.goto 51, 3) := by decide +kernel
theorem d37_58 : decode (mB m37) 58 = .ok (.aload_n 0, 1) := by decide +kernel
theorem d37_59 : decode (mB m37) 59 = .ok (.aload_n 0, 1) := by decide +kernel
theorem d37_60 : decode (mB m37) 60 = .ok (.getfield 104, 3) := by decide +kernel
theorem d37_63 : decode (mB m37) 63 = .ok (.aload_n 0, 1) := by decide +kernel
theorem d37_64 : decode (mB m37) 64 = .ok (.getfield 107, 3) := by decide +kernel
theorem d37_67 : decode (mB m37) 67 = .ok (.invokevirtual 120, 3) := by decide +kernel
theorem d37_70 : decode (mB m37) 70 = .ok (.aload_n 0, 1) := by decide +kernel
theorem d37_71 : decode (mB m37) 71 = .ok (.aload_n 0, 1) := by decide +kernel
theorem d37_72 : decode (mB m37) 72 = .ok (.getfield 101, 3) := by decide +kernel
theorem d37_75 : decode (mB m37) 75 = .ok (.iconst 1, 1) := by decide +kernel
theorem d37_76 : decode (mB m37) 76 = .ok (.iadd, 1) := by decide +kernel
theorem d37_77 : decode (mB m37) 77 = .ok (.putfield 101, 3) := by decide +kernel
theorem d37_80 : decode (mB m37) 80 = .ok (.aload_n 0, 1) := by decide +kernel
theorem d37_81 : decode (mB m37) 81 = .ok (.aload_n 0, 1) := by decide +kernel
theorem d37_82 : decode (mB m37) 82 = .ok (.getfield 104, 3) := by decide +kernel
theorem d37_85 : decode (mB m37) 85 = .ok (.iconst 1, 1) := by decide +kernel
theorem d37_86 : decode (mB m37) 86 = .ok (.iadd, 1) := by decide +kernel
theorem d37_87 : decode (mB m37) 87 = .ok (.putfield 104, 3) := by decide +kernel
theorem d37_90 : decode (mB m37) 90 = .ok (.aload_n 0, 1) := by decide +kernel
theorem d37_91 : decode (mB m37) 91 = .ok (.aload_n 0, 1) := by decide +kernel
theorem d37_92 : decode (mB m37) 92 = .ok (.getfield 107, 3) := by decide +kernel
theorem d37_95 : decode (mB m37) 95 = .ok (.iconst 1, 1) := by decide +kernel
theorem d37_96 : decode (mB m37) 96 = .ok (.isub, 1) := by decide +kernel
theorem d37_97 : decode (mB m37) 97 = .ok (.putfield 107, 3) := by decide +kernel
theorem d37_100 : decode (mB m37) 100 = .ok (.iinc 2 1, 3) := by decide +kernel
theorem d37_103 : decode (mB m37) 103 = .ok (.goto (-69), 3) := by decide +kernel
theorem d37_106 : decode (mB m37) 106 = .ok (.aload_n 0, 1) := by decide +kernel
theorem d37_107 : decode (mB m37) 107 = .ok (.getfield 101, 3) := by decide +kernel
theorem d37_110 : decode (mB m37) 110 = .ok (.ireturn, 1) := by decide +kernel
theorem d38_0 : decode (mB m38) 0 = .ok (.iload_n 2, 1) := by decide +kernel
theorem d38_1 : decode (mB m38) 1 = .ok (.bipush 7, 2) := by decide +kernel
theorem d38_3 : decode (mB m38) 3 = .ok (.iand, 1) := by decide +kernel
theorem d38_4 : decode (mB m38) 4 = .ok (.iconst 5, 1) := by decide +kernel
theorem d38_5 : decode (mB m38) 5 = .ok (.irem, 1) := by decide +kernel
theorem d38_6 : decode (mB m38) 6 = .ok (.istore 5, 2) := by decide +kernel
theorem d38_8 : decode (mB m38) 8 = .ok (.iload_n 3, 1) := by decide +kernel
theorem d38_9 : decode (mB m38) 9 = .ok (.bipush 7, 2) := by decide +kernel
theorem d38_11 : decode (mB m38) 11 = .ok (.iand, 1) := by decide +kernel
theorem d38_12 : decode (mB m38) 12 = .ok (.iconst 5, 1) := by decide +kernel
theorem d38_13 : decode (mB m38) 13 = .ok (.irem, 1) := by decide +kernel
theorem d38_14 : decode (mB m38) 14 = .ok (.istore 6, 2) := by decide +kernel
theorem d38_16 : decode (mB m38) 16 = .ok (.iload_n 2, 1) := by decide +kernel
theorem d38_17 : decode (mB m38) 17 = .ok (.bipush 15, 2) := by decide +kernel
theorem d38_19 : decode (mB m38) 19 = .ok (.iand, 1) := by decide +kernel
theorem d38_20 : decode (mB m38) 20 = .ok (.bipush 9, 2) := by decide +kernel
theorem d38_22 : decode (mB m38) 22 = .ok (.irem, 1) := by decide +kernel
theorem d38_23 : decode (mB m38) 23 = .ok (.istore 7, 2) := by decide +kernel
theorem d38_25 : decode (mB m38) 25 = .ok (.iload_n 1, 1) := by decide +kernel
theorem d38_26 : decode (mB m38) 26 = .ok (.ifCond .ne 17, 3) := by decide +kernel
theorem d38_29 : decode (mB m38) 29 = .ok (.aload_n 0, 1) := by decide +kernel
theorem d38_30 : decode (mB m38) 30 = .ok (.iload 5, 2) := by decide +kernel
theorem d38_32 : decode (mB m38) 32 = .ok (.iload 6, 2) := by decide +kernel
theorem d38_34 : decode (mB m38) 34 = .ok (.iload 4, 2) := by decide +kernel
theorem d38_36 : decode (mB m38) 36 = .ok (.invokevirtual 7, 3) := by decide +kernel
theorem d38_39 : decode (mB m38) 39 = .ok (.pop, 1) := by decide +kernel
theorem d38_40 : decode (mB m38) 40 = .ok (.goto 140, 3) := by decide +kernel
theorem d38_43 : decode (mB m38) 43 = .ok (.iload_n 1, 1) := by decide +kernel
theorem d38_44 : decode (mB m38) 44 = .ok (.iconst 1, 1) := by decide +kernel
theorem d38_45 : decode (mB m38) 45 = .ok (.if_icmp .ne 25, 3) := by decide +kernel
theorem d38_48 : decode (mB m38) 48 = .ok (.aload_n 0, 1) := by decide +kernel
theorem d38_49 : decode (mB m38) 49 = .ok (.iload 5, 2) := by decide +kernel
theorem d38_51 : decode (mB m38) 51 = .ok (.iload 6, 2) := by decide +kernel
theorem d38_53 : decode (mB m38) 53 = .ok (.iload 4, 2) := by decide +kernel
theorem d38_55 : decode (mB m38) 55 = .ok (.iconst 3, 1) := by decide +kernel
theorem d38_56 : decode (mB m38) 56 = .ok (.iand, 1) := by decide +kernel
theorem d38_57 : decode (mB m38) 57 = .ok (.iload 4, 2) := by decide +kernel
theorem d38_59 : decode (mB m38) 59 = .ok (.iconst 2, 1) := by decide +kernel
theorem d38_60 : decode (mB m38) 60 = .ok (.ishr, 1) := by decide +kernel
theorem d38_61 : decode (mB m38) 61 = .ok (.iconst 3, 1) := by decide +kernel
theorem d38_62 : decode (mB m38) 62 = .ok (.iand, 1) := by decide +kernel
theorem d38_63 : decode (mB m38) 63 = .ok (.invokevirtual 13, 3) := by decide +kernel
theorem d38_66 : decode (mB m38) 66 = .ok (.pop, 1) := by decide +kernel
theorem d38_67 : decode (mB m38) 67 = .ok (.goto 113, 3) := by decide +kernel
theorem d38_70 : decode (mB m38) 70 = .ok (.iload_n 1, 1) := by decide +kernel
theorem d38_71 : decode (mB m38) 71 = .ok (.iconst 2, 1) := by decide +kernel
theorem d38_72 : decode (mB m38) 72 = .ok (.if_icmp .ne 15, 3) := by decide +kernel
theorem d38_75 : decode (mB m38) 75 = .ok (.aload_n 0, 1) := by decide +kernel
theorem d38_76 : decode (mB m38) 76 = .ok (.iload 5, 2) := by decide +kernel
theorem d38_78 : decode (mB m38) 78 = .ok (.iload 6, 2) := by decide +kernel
theorem d38_80 : decode (mB m38) 80 = .ok (.invokevirtual 17, 3) := by decide +kernel
theorem d38_83 : decode (mB m38) 83 = .ok (.pop, 1) := by decide +kernel
theorem d38_84 : decode (mB m38) 84 = .ok (.goto 96, 3) := by decide +kernel
theorem d38_87 : decode (mB m38) 87 = .ok (.iload_n 1, 1) := by decide +kernel
theorem d38_88 : decode (mB m38) 88 = .ok (.iconst 3, 1) := by decide +kernel
theorem d38_89 : decode (mB m38) 89 = .ok (.if_icmp .ne 17, 3) := by decide +kernel
theorem d38_92 : decode (mB m38) 92 = .ok (.aload_n 0, 1) := by decide +kernel
theorem d38_93 : decode (mB m38) 93 = .ok (.iload 5, 2) := by decide +kernel
theorem d38_95 : decode (mB m38) 95 = .ok (.iload 6, 2) := by decide +kernel
theorem d38_97 : decode (mB m38) 97 = .ok (.iload 4, 2) := by decide +kernel
theorem d38_99 : decode (mB m38) 99 = .ok (.invokevirtual 21, 3) := by decide +kernel
theorem d38_102 : decode (mB m38) 102 = .ok (.pop, 1) := by decide +kernel
theorem d38_103 : decode (mB m38) 103 = .ok (.goto 77, 3) := by decide +kernel
theorem d38_106 : decode (mB m38) 106 = .ok (.iload_n 1, 1) := by decide +kernel
theorem d38_107 : decode (mB m38) 107 = .ok (.iconst 4, 1) := by decide +kernel
theorem d38_108 : decode (mB m38) 108 = .ok (.if_icmp .ne 13, 3) := by decide +kernel
theorem d38_111 : decode (mB m38) 111 = .ok (.aload_n 0, 1) := by decide +kernel
theorem d38_112 : decode (mB m38) 112 = .ok (.iload 7, 2) := by decide +kernel
theorem d38_114 : decode (mB m38) 114 = .ok (.invokevirtual 25, 3) := by decide +kernel
theorem d38_117 : decode (mB m38) 117 = .ok (.pop, 1) := by decide +kernel
theorem d38_118 : decode (mB m38) 118 = .ok (.goto 62, 3) := by decide +kernel
theorem d38_121 : decode (mB m38) 121 = .ok (.iload_n 1, 1) := by decide +kernel
theorem d38_122 : decode (mB m38) 122 = .ok (.iconst 5, 1) := by decide +kernel
theorem d38_123 : decode (mB m38) 123 = .ok (.if_icmp .ne 13, 3) := by decide +kernel
theorem d38_126 : decode (mB m38) 126 = .ok (.aload_n 0, 1) := by decide +kernel
theorem d38_127 : decode (mB m38) 127 = .ok (.iload 7, 2) := by decide +kernel
theorem d38_129 : decode (mB m38) 129 = .ok (.invokevirtual 29, 3) := by decide +kernel
theorem d38_132 : decode (mB m38) 132 = .ok (.pop, 1) := by decide +kernel
theorem d38_133 : decode (mB m38) 133 = .ok (.goto 47, 3) := by decide +kernel
theorem d38_136 : decode (mB m38) 136 = .ok (.iload_n 1, 1) := by decide +kernel
theorem d38_137 : decode (mB m38) 137 = .ok (.bipush 6, 2) := by decide +kernel
theorem d38_139 : decode (mB m38) 139 = .ok (.if_icmp .ne 14, 3) := by decide +kernel
theorem d38_142 : decode (mB m38) 142 = .ok (.aload_n 0, 1) := by decide +kernel
theorem d38_143 : decode (mB m38) 143 = .ok (.iload_n 2, 1) := by decide +kernel
theorem d38_144 : decode (mB m38) 144 = .ok (.iconst 3, 1) := by decide +kernel
theorem d38_145 : decode (mB m38) 145 = .ok (.iand, 1) := by decide +kernel
theorem d38_146 : decode (mB m38) 146 = .ok (.invokevirtual 32, 3) := by decide +kernel
theorem d38_149 : decode (mB m38) 149 = .ok (.pop, 1) := by decide +kernel
theorem d38_150 : decode (mB m38) 150 = .ok (.goto 30, 3) := by decide +kernel
theorem d38_153 : decode (mB m38) 153 = .ok (.iload_n 1, 1) := by decide +kernel
theorem d38_154 : decode (mB m38) 154 = .ok (.bipush 7, 2) := by decide +kernel
theorem d38_156 : decode (mB m38) 156 = .ok (.if_icmp .ne 13, 3) := by decide +kernel
theorem d38_159 : decode (mB m38) 159 = .ok (.aload_n 0, 1) := by decide +kernel
theorem d38_160 : decode (mB m38) 160 = .ok (.iload 7, 2) := by decide +kernel
theorem d38_162 : decode (mB m38) 162 = .ok (.invokevirtual 36, 3) := by decide +kernel
theorem d38_165 : decode (mB m38) 165 = .ok (.pop, 1) := by decide +kernel
theorem d38_166 : decode (mB m38) 166 = .ok (.goto 14, 3) := by decide +kernel
theorem d38_169 : decode (mB m38) 169 = .ok (.aload_n 0, 1) := by decide +kernel
theorem d38_170 : decode (mB m38) 170 = .ok (.iload_n 2, 1) := by decide +kernel
theorem d38_171 : decode (mB m38) 171 = .ok (.bipush 7, 2) := by decide +kernel
theorem d38_173 : decode (mB m38) 173 = .ok (.iand, 1) := by decide +kernel
theorem d38_174 : decode (mB m38) 174 = .ok (.iconst 1, 1) := by decide +kernel
theorem d38_175 : decode (mB m38) 175 = .ok (.isub, 1) := by decide +kernel
theorem d38_176 : decode (mB m38) 176 = .ok (.invokevirtual 39, 3) := by decide +kernel
theorem d38_179 : decode (mB m38) 179 = .ok (.pop, 1) := by decide +kernel
theorem d38_180 : decode (mB m38) 180 = .ok (.return_, 1) := by decide +kernel
theorem d39_0 : decode (mB m39) 0 = .ok (.lload_n 1, 1) := by decide +kernel
theorem d39_1 : decode (mB m39) 1 = .ok (.lload_n 1, 1) := by decide +kernel
theorem d39_2 : decode (mB m39) 2 = .ok (.iconst 1, 1) := by decide +kernel
theorem d39_3 : decode (mB m39) 3 = .ok (.lushr, 1) := by decide +kernel
theorem d39_4 : decode (mB m39) 4 = .ok (.ldc2_w 162, 3) := by decide +kernel
theorem d39_7 : decode (mB m39) 7 = .ok (.land, 1) := by decide +kernel
theorem d39_8 : decode (mB m39) 8 = .ok (.lsub, 1) := by decide +kernel
theorem d39_9 : decode (mB m39) 9 = .ok (.lstore_n 3, 1) := by decide +kernel
theorem d39_10 : decode (mB m39) 10 = .ok (.lload_n 3, 1) := by decide +kernel
theorem d39_11 : decode (mB m39) 11 = .ok (.ldc2_w 192, 3) := by decide +kernel
theorem d39_14 : decode (mB m39) 14 = .ok (.land, 1) := by decide +kernel
theorem d39_15 : decode (mB m39) 15 = .ok (.lload_n 3, 1) := by decide +kernel
theorem d39_16 : decode (mB m39) 16 = .ok (.iconst 2, 1) := by decide +kernel
theorem d39_17 : decode (mB m39) 17 = .ok (.lushr, 1) := by decide +kernel
theorem d39_18 : decode (mB m39) 18 = .ok (.ldc2_w 192, 3) := by decide +kernel
theorem d39_21 : decode (mB m39) 21 = .ok (.land, 1) := by decide +kernel
theorem d39_22 : decode (mB m39) 22 = .ok (.ladd, 1) := by decide +kernel
theorem d39_23 : decode (mB m39) 23 = .ok (.lstore_n 3, 1) := by decide +kernel
theorem d39_24 : decode (mB m39) 24 = .ok (.lload_n 3, 1) := by decide +kernel
theorem d39_25 : decode (mB m39) 25 = .ok (.lload_n 3, 1) := by decide +kernel
theorem d39_26 : decode (mB m39) 26 = .ok (.iconst 4, 1) := by decide +kernel
theorem d39_27 : decode (mB m39) 27 = .ok (.lushr, 1) := by decide +kernel
theorem d39_28 : decode (mB m39) 28 = .ok (.ladd, 1) := by decide +kernel
theorem d39_29 : decode (mB m39) 29 = .ok (.ldc2_w 194, 3) := by decide +kernel
theorem d39_32 : decode (mB m39) 32 = .ok (.land, 1) := by decide +kernel
theorem d39_33 : decode (mB m39) 33 = .ok (.lstore_n 3, 1) := by decide +kernel
theorem d39_34 : decode (mB m39) 34 = .ok (.lload_n 3, 1) := by decide +kernel
theorem d39_35 : decode (mB m39) 35 = .ok (.ldc2_w 166, 3) := by decide +kernel
theorem d39_38 : decode (mB m39) 38 = .ok (.lmul, 1) := by decide +kernel
theorem d39_39 : decode (mB m39) 39 = .ok (.bipush 56, 2) := by decide +kernel
theorem d39_41 : decode (mB m39) 41 = .ok (.lushr, 1) := by decide +kernel
theorem d39_42 : decode (mB m39) 42 = .ok (.l2i, 1) := by decide +kernel
theorem d39_43 : decode (mB m39) 43 = .ok (.ireturn, 1) := by decide +kernel
theorem d40_0 : decode (mB m40) 0 = .ok (.aload_n 0, 1) := by decide +kernel
theorem d40_1 : decode (mB m40) 1 = .ok (.aload_n 0, 1) := by decide +kernel
theorem d40_2 : decode (mB m40) 2 = .ok (.getfield 54, 3) := by decide +kernel
theorem d40_5 : decode (mB m40) 5 = .ok (.invokevirtual 123, 3) := by decide +kernel
theorem d40_8 : decode (mB m40) 8 = .ok (.ireturn, 1) := by decide +kernel
theorem d41_0 : decode (mB m41) 0 = .ok (.aload_n 0, 1) := by decide +kernel
theorem d41_1 : decode (mB m41) 1 = .ok (.iload_n 1, 1) := by decide +kernel
theorem d41_2 : decode (mB m41) 2 = .ok (.iload_n 2, 1) := by decide +kernel
theorem d41_3 : decode (mB m41) 3 = .ok (.invokevirtual 88, 3) := by decide +kernel
theorem d41_6 : decode (mB m41) 6 = .ok (.istore_n 3, 1) := by decide +kernel
theorem d41_7 : decode (mB m41) 7 = .ok (.iload_n 3, 1) := by decide +kernel
theorem d41_8 : decode (mB m41) 8 = .ok (.ifCond .ge 5, 3) := by decide +kernel
theorem d41_11 : decode (mB m41) 11 = .ok (.iconst (-1), 1) := by decide +kernel
theorem d41_12 : decode (mB m41) 12 = .ok (.ireturn, 1) := by decide +kernel
theorem d41_13 : decode (mB m41) 13 = .ok (.iload_n 3, 1) := by decide +kernel
theorem d41_14 : decode (mB m41) 14 = .ok (.ireturn, 1) := by decide +kernel
theorem d42_0 : decode (mB m42) 0 = .ok (.aload_n 0, 1) := by decide +kernel
theorem d42_1 : decode (mB m42) 1 = .ok (.iload_n 1, 1) := by decide +kernel
theorem d42_2 : decode (mB m42) 2 = .ok (.iload_n 2, 1) := by decide +kernel
theorem d42_3 : decode (mB m42) 3 = .ok (.invokevirtual 88, 3) := by decide +kernel
theorem d42_6 : decode (mB m42) 6 = .ok (.istore_n 3, 1) := by decide +kernel
theorem d42_7 : decode (mB m42) 7 = .ok (.iload_n 3, 1) := by decide +kernel
theorem d42_8 : decode (mB m42) 8 = .ok (.ifCond .ge 5, 3) := by decide +kernel
theorem d42_11 : decode (mB m42) 11 = .ok (.iconst 0, 1) := by decide +kernel
theorem d42_12 : decode (mB m42) 12 = .ok (.ireturn, 1) := by decide +kernel
theorem d42_13 : decode (mB m42) 13 = .ok (.aload_n 0, 1) := by decide +kernel
theorem d42_14 : decode (mB m42) 14 = .ok (.getfield 13, 3) := by decide +kernel
theorem d42_17 : decode (mB m42) 17 = .ok (.iload_n 3, 1) := by decide +kernel
theorem d42_18 : decode (mB m42) 18 = .ok (.iaload, 1) := by decide +kernel
theorem d42_19 : decode (mB m42) 19 = .ok (.ireturn, 1) := by decide +kernel
theorem d43_0 : decode (mB m43) 0 = .ok (.aload_n 0, 1) := by decide +kernel
theorem d43_1 : decode (mB m43) 1 = .ok (.iload_n 1, 1) := by decide +kernel
theorem d43_2 : decode (mB m43) 2 = .ok (.invokevirtual 62, 3) := by decide +kernel
theorem d43_5 : decode (mB m43) 5 = .ok (.ifCond .ne 5, 3) := by decide +kernel
theorem d43_8 : decode (mB m43) 8 = .ok (.iconst 0, 1) := by decide +kernel
theorem d43_9 : decode (mB m43) 9 = .ok (.ireturn, 1) := by decide +kernel
theorem d43_10 : decode (mB m43) 10 = .ok (.aload_n 0, 1) := by decide +kernel
theorem d43_11 : decode (mB m43) 11 = .ok (.getfield 17, 3) := by decide +kernel
theorem d43_14 : decode (mB m43) 14 = .ok (.iload_n 1, 1) := by decide +kernel
theorem d43_15 : decode (mB m43) 15 = .ok (.iaload, 1) := by decide +kernel
theorem d43_16 : decode (mB m43) 16 = .ok (.ireturn, 1) := by decide +kernel
theorem d44_0 : decode (mB m44) 0 = .ok (.aload_n 0, 1) := by decide +kernel
theorem d44_1 : decode (mB m44) 1 = .ok (.iload_n 1, 1) := by decide +kernel
theorem d44_2 : decode (mB m44) 2 = .ok (.invokevirtual 62, 3) := by decide +kernel
theorem d44_5 : decode (mB m44) 5 = .ok (.ifCond .ne 5, 3) := by decide +kernel
theorem d44_8 : decode (mB m44) 8 = .ok (.iconst (-1), 1) := by decide +kernel
theorem d44_9 : decode (mB m44) 9 = .ok (.ireturn, 1) := by decide +kernel
theorem d44_10 : decode (mB m44) 10 = .ok (.aload_n 0, 1) := by decide +kernel
theorem d44_11 : decode (mB m44) 11 = .ok (.getfield 7, 3) := by decide +kernel
theorem d44_14 : decode (mB m44) 14 = .ok (.iload_n 1, 1) := by decide +kernel
theorem d44_15 : decode (mB m44) 15 = .ok (.baload, 1) := by decide +kernel
theorem d44_16 : decode (mB m44) 16 = .ok (.ireturn, 1) := by decide +kernel
theorem d45_0 : decode (mB m45) 0 = .ok (.aload_n 0, 1) := by decide +kernel
theorem d45_1 : decode (mB m45) 1 = .ok (.iload_n 1, 1) := by decide +kernel
theorem d45_2 : decode (mB m45) 2 = .ok (.invokevirtual 62, 3) := by decide +kernel
theorem d45_5 : decode (mB m45) 5 = .ok (.ifCond .ne 5, 3) := by decide +kernel
theorem d45_8 : decode (mB m45) 8 = .ok (.iconst 0, 1) := by decide +kernel
theorem d45_9 : decode (mB m45) 9 = .ok (.ireturn, 1) := by decide +kernel
theorem d45_10 : decode (mB m45) 10 = .ok (.aload_n 0, 1) := by decide +kernel
theorem d45_11 : decode (mB m45) 11 = .ok (.getfield 7, 3) := by decide +kernel
theorem d45_14 : decode (mB m45) 14 = .ok (.iload_n 1, 1) := by decide +kernel
theorem d45_15 : decode (mB m45) 15 = .ok (.baload, 1) := by decide +kernel
theorem d45_16 : decode (mB m45) 16 = .ok (.istore_n 2, 1) := by decide +kernel
theorem d45_17 : decode (mB m45) 17 = .ok (.iload_n 2, 1) := by decide +kernel
theorem d45_18 : decode (mB m45) 18 = .ok (.ifCond .eq 8, 3) := by decide +kernel
theorem d45_21 : decode (mB m45) 21 = .ok (.iload_n 2, 1) := by decide +kernel
theorem d45_22 : decode (mB m45) 22 = .ok (.iconst 3, 1) := by decide +kernel
theorem d45_23 : decode (mB m45) 23 = .ok (.if_icmp .ne 5, 3) := by decide +kernel
theorem d45_26 : decode (mB m45) 26 = .ok (.iconst 0, 1) := by decide +kernel
theorem d45_27 : decode (mB m45) 27 = .ok (.ireturn, 1) := by decide +kernel
theorem d45_28 : decode (mB m45) 28 = .ok (.aload_n 0, 1) := by decide +kernel
theorem d45_29 : decode (mB m45) 29 = .ok (.getfield 13, 3) := by decide +kernel
theorem d45_32 : decode (mB m45) 32 = .ok (.iload_n 1, 1) := by decide +kernel
theorem d45_33 : decode (mB m45) 33 = .ok (.iaload, 1) := by decide +kernel
theorem d45_34 : decode (mB m45) 34 = .ok (.ireturn, 1) := by decide +kernel
theorem d46_0 : decode (mB m46) 0 = .ok (.new 8, 3) := by decide +kernel
theorem d46_3 : decode (mB m46) 3 = .ok (.dup, 1) := by decide +kernel
theorem d46_4 : decode (mB m46) 4 = .ok (.bipush 8, 2) := by decide +kernel
theorem d46_6 : decode (mB m46) 6 = .ok (.iconst 4, 1) := by decide +kernel
theorem d46_7 : decode (mB m46) 7 = .ok (.invokespecial 42, 3) := by decide +kernel
theorem d46_10 : decode (mB m46) 10 = .ok (.astore_n 1, 1) := by decide +kernel
theorem d46_11 : decode (mB m46) 11 = .ok (.new 8, 3) := by decide +kernel
theorem d46_14 : decode (mB m46) 14 = .ok (.dup, 1) := by decide +kernel
theorem d46_15 : decode (mB m46) 15 = .ok (.bipush 8, 2) := by decide +kernel
theorem d46_17 : decode (mB m46) 17 = .ok (.iconst 4, 1) := by decide +kernel
theorem d46_18 : decode (mB m46) 18 = .ok (.invokespecial 42, 3) := by decide +kernel
theorem d46_21 : decode (mB m46) 21 = .ok (.astore_n 2, 1) := by decide +kernel
theorem d46_22 : decode (mB m46) 22 = .ok (.iconst 0, 1) := by decide +kernel
theorem d46_23 : decode (mB m46) 23 = .ok (.istore_n 3, 1) := by decide +kernel
theorem d46_24 : decode (mB m46) 24 = .ok (.iload_n 3, 1) := by decide +kernel
theorem d46_25 : decode (mB m46) 25 = .ok (.iconst 3, 1) := by decide +kernel
theorem d46_26 : decode (mB m46) 26 = .ok (.iadd, 1) := by decide +kernel
theorem d46_27 : decode (mB m46) 27 = .ok (.aload_n 0, 1) := by decide +kernel
theorem d46_28 : decode (mB m46) 28 = .ok (.arraylength, 1) := by decide +kernel
theorem d46_29 : decode (mB m46) 29 = .ok (.if_icmp .ge 62, 3) := by decide +kernel
theorem d46_32 : decode (mB m46) 32 = .ok (.aload_n 0, 1) := by decide +kernel
theorem d46_33 : decode (mB m46) 33 = .ok (.iload_n 3, 1) := by decide +kernel
theorem d46_34 : decode (mB m46) 34 = .ok (.iaload, 1) := by decide +kernel
theorem d46_35 : decode (mB m46) 35 = .ok (.bipush 15, 2) := by decide +kernel
theorem d46_37 : decode (mB m46) 37 = .ok (.iand, 1) := by decide +kernel
theorem d46_38 : decode (mB m46) 38 = .ok (.bipush 9, 2) := by decide +kernel
theorem d46_40 : decode (mB m46) 40 = .ok (.irem, 1) := by decide +kernel
theorem d46_41 : decode (mB m46) 41 = .ok (.istore 4, 2) := by decide +kernel
theorem d46_43 : decode (mB m46) 43 = .ok (.aload_n 1, 1) := by decide +kernel
theorem d46_44 : decode (mB m46) 44 = .ok (.iload 4, 2) := by decide +kernel
theorem d46_46 : decode (mB m46) 46 = .ok (.aload_n 0, 1) := by decide +kernel
theorem d46_47 : decode (mB m46) 47 = .ok (.iload_n 3, 1) := by decide +kernel
theorem d46_48 : decode (mB m46) 48 = .ok (.iconst 1, 1) := by decide +kernel
theorem d46_49 : decode (mB m46) 49 = .ok (.iadd, 1) := by decide +kernel
theorem d46_50 : decode (mB m46) 50 = .ok (.iaload, 1) := by decide +kernel
theorem d46_51 : decode (mB m46) 51 = .ok (.aload_n 0, 1) := by decide +kernel
theorem d46_52 : decode (mB m46) 52 = .ok (.iload_n 3, 1) := by decide +kernel
theorem d46_53 : decode (mB m46) 53 = .ok (.iconst 2, 1) := by decide +kernel
theorem d46_54 : decode (mB m46) 54 = .ok (.iadd, 1) := by decide +kernel
theorem d46_55 : decode (mB m46) 55 = .ok (.iaload, 1) := by decide +kernel
theorem d46_56 : decode (mB m46) 56 = .ok (.aload_n 0, 1) := by decide +kernel
theorem d46_57 : decode (mB m46) 57 = .ok (.iload_n 3, 1) := by decide +kernel
theorem d46_58 : decode (mB m46) 58 = .ok (.iconst 3, 1) := by decide +kernel
theorem d46_59 : decode (mB m46) 59 = .ok (.iadd, 1) := by decide +kernel
theorem d46_60 : decode (mB m46) 60 = .ok (.iaload, 1) := by decide +kernel
theorem d46_61 : decode (mB m46) 61 = .ok (.invokestatic 45, 3) := by decide +kernel
theorem d46_64 : decode (mB m46) 64 = .ok (.aload_n 2, 1) := by decide +kernel
theorem d46_65 : decode (mB m46) 65 = .ok (.iload 4, 2) := by decide +kernel
theorem d46_67 : decode (mB m46) 67 = .ok (.aload_n 0, 1) := by decide +kernel
theorem d46_68 : decode (mB m46) 68 = .ok (.iload_n 3, 1) := by decide +kernel
theorem d46_69 : decode (mB m46) 69 = .ok (.iconst 1, 1) := by decide +kernel
theorem d46_70 : decode (mB m46) 70 = .ok (.iadd, 1) := by decide +kernel
theorem d46_71 : decode (mB m46) 71 = .ok (.iaload, 1) := by decide +kernel
theorem d46_72 : decode (mB m46) 72 = .ok (.aload_n 0, 1) := by decide +kernel
theorem d46_73 : decode (mB m46) 73 = .ok (.iload_n 3, 1) := by decide +kernel
theorem d46_74 : decode (mB m46) 74 = .ok (.iconst 2, 1) := by decide +kernel
theorem d46_75 : decode (mB m46) 75 = .ok (.iadd, 1) := by decide +kernel
theorem d46_76 : decode (mB m46) 76 = .ok (.iaload, 1) := by decide +kernel
theorem d46_77 : decode (mB m46) 77 = .ok (.aload_n 0, 1) := by decide +kernel
theorem d46_78 : decode (mB m46) 78 = .ok (.iload_n 3, 1) := by decide +kernel
theorem d46_79 : decode (mB m46) 79 = .ok (.iconst 3, 1) := by decide +kernel
theorem d46_80 : decode (mB m46) 80 = .ok (.iadd, 1) := by decide +kernel
theorem d46_81 : decode (mB m46) 81 = .ok (.iaload, 1) := by decide +kernel
theorem d46_82 : decode (mB m46) 82 = .ok (.invokestatic 45, 3) := by decide +kernel
theorem d46_85 : decode (mB m46) 85 = .ok (.iinc 3 4, 3) := by decide +kernel
theorem d46_88 : decode (mB m46) 88 = .ok (.goto (-64), 3) := by decide +kernel
theorem d46_91 : decode (mB m46) 91 = .ok (.aload_n 1, 1) := by decide +kernel
theorem d46_92 : decode (mB m46) 92 = .ok (.bipush 64, 2) := by decide +kernel
theorem d46_94 : decode (mB m46) 94 = .ok (.invokevirtual 39, 3) := by decide +kernel
theorem d46_97 : decode (mB m46) 97 = .ok (.istore_n 3, 1) := by decide +kernel
theorem d46_98 : decode (mB m46) 98 = .ok (.aload_n 1, 1) := by decide +kernel
theorem d46_99 : decode (mB m46) 99 = .ok (.invokevirtual 51, 3) := by decide +kernel
theorem d46_102 : decode (mB m46) 102 = .ok (.aload_n 2, 1) := by decide +kernel
theorem d46_103 : decode (mB m46) 103 = .ok (.invokevirtual 51, 3) := by decide +kernel
theorem d46_106 : decode (mB m46) 106 = .ok (.if_icmp .eq 5, 3) := by decide +kernel
theorem d46_109 : decode (mB m46) 109 = .ok (.iconst 0, 1) := by decide +kernel
theorem d46_110 : decode (mB m46) 110 = .ok (.ireturn, 1) := by decide +kernel
theorem d46_111 : decode (mB m46) 111 = .ok (.iconst 0, 1) := by decide +kernel
theorem d46_112 : decode (mB m46) 112 = .ok (.istore 4, 2) := by decide +kernel
theorem d46_114 : decode (mB m46) 114 = .ok (.iload 4, 2) := by decide +kernel
theorem d46_116 : decode (mB m46) 116 = .ok (.sipush 256, 3) := by decide +kernel
theorem d46_119 : decode (mB m46) 119 = .ok (.if_icmp .ge 178, 3) := by decide +kernel
theorem d46_122 : decode (mB m46) 122 = .ok (.iload 4, 2) := by decide +kernel
theorem d46_124 : decode (mB m46) 124 = .ok (.iconst 4, 1) := by decide +kernel
theorem d46_125 : decode (mB m46) 125 = .ok (.ishr, 1) := by decide +kernel
theorem d46_126 : decode (mB m46) 126 = .ok (.iconst 2, 1) := by decide +kernel
theorem d46_127 : decode (mB m46) 127 = .ok (.ishr, 1) := by decide +kernel
theorem d46_128 : decode (mB m46) 128 = .ok (.istore 5, 2) := by decide +kernel
theorem d46_130 : decode (mB m46) 130 = .ok (.iload 4, 2) := by decide +kernel
theorem d46_132 : decode (mB m46) 132 = .ok (.iconst 4, 1) := by decide +kernel
theorem d46_133 : decode (mB m46) 133 = .ok (.ishr, 1) := by decide +kernel
theorem d46_134 : decode (mB m46) 134 = .ok (.iconst 3, 1) := by decide +kernel
theorem d46_135 : decode (mB m46) 135 = .ok (.iand, 1) := by decide +kernel
theorem d46_136 : decode (mB m46) 136 = .ok (.istore 6, 2) := by decide +kernel
theorem d46_138 : decode (mB m46) 138 = .ok (.iload 4, 2) := by decide +kernel
theorem d46_140 : decode (mB m46) 140 = .ok (.bipush 15, 2) := by decide +kernel
theorem d46_142 : decode (mB m46) 142 = .ok (.iand, 1) := by decide +kernel
theorem d46_143 : decode (mB m46) 143 = .ok (.iconst 2, 1) := by decide +kernel
theorem d46_144 : decode (mB m46) 144 = .ok (.ishr, 1) := by decide +kernel
theorem d46_145 : decode (mB m46) 145 = .ok (.istore 7, 2) := by decide +kernel
theorem d46_147 : decode (mB m46) 147 = .ok (.iload 4, 2) := by decide +kernel
theorem d46_149 : decode (mB m46) 149 = .ok (.iconst 3, 1) := by decide +kernel
theorem d46_150 : decode (mB m46) 150 = .ok (.iand, 1) := by decide +kernel
theorem d46_151 : decode (mB m46) 151 = .ok (.istore 8, 2) := by decide +kernel
theorem d46_153 : decode (mB m46) 153 = .ok (.aload_n 1, 1) := by decide +kernel
theorem d46_154 : decode (mB m46) 154 = .ok (.iload 5, 2) := by decide +kernel
theorem d46_156 : decode (mB m46) 156 = .ok (.iload 6, 2) := by decide +kernel
theorem d46_158 : decode (mB m46) 158 = .ok (.invokevirtual 55, 3) := by decide +kernel
theorem d46_161 : decode (mB m46) 161 = .ok (.istore 9, 2) := by decide +kernel
theorem d46_163 : decode (mB m46) 163 = .ok (.aload_n 1, 1) := by decide +kernel
theorem d46_164 : decode (mB m46) 164 = .ok (.iload 7, 2) := by decide +kernel
theorem d46_166 : decode (mB m46) 166 = .ok (.iload 8, 2) := by decide +kernel
theorem d46_168 : decode (mB m46) 168 = .ok (.invokevirtual 55, 3) := by decide +kernel
theorem d46_171 : decode (mB m46) 171 = .ok (.istore 10, 2) := by decide +kernel
theorem d46_173 : decode (mB m46) 173 = .ok (.aload_n 2, 1) := by decide +kernel
theorem d46_174 : decode (mB m46) 174 = .ok (.iload 5, 2) := by decide +kernel
theorem d46_176 : decode (mB m46) 176 = .ok (.iload 6, 2) := by decide +kernel
theorem d46_178 : decode (mB m46) 178 = .ok (.invokevirtual 55, 3) := by decide +kernel
theorem d46_181 : decode (mB m46) 181 = .ok (.istore 11, 2) := by decide +kernel
theorem d46_183 : decode (mB m46) 183 = .ok (.aload_n 2, 1) := by decide +kernel
theorem d46_184 : decode (mB m46) 184 = .ok (.iload 7, 2) := by decide +kernel
theorem d46_186 : decode (mB m46) 186 = .ok (.iload 8, 2) := by decide +kernel
theorem d46_188 : decode (mB m46) 188 = .ok (.invokevirtual 55, 3) := by decide +kernel
theorem d46_191 : decode (mB m46) 191 = .ok (.istore 12, 2) := by decide +kernel
theorem d46_193 : decode (mB m46) 193 = .ok (.iload 9, 2) := by decide +kernel
theorem d46_195 : decode (mB m46) 195 = .ok (.iload 10, 2) := by decide +kernel
theorem d46_197 : decode (mB m46) 197 = .ok (.if_icmp .ne 7, 3) := by decide +kernel
theorem d46_200 : decode (mB m46) 200 = .ok (.iconst 1, 1) := by decide +kernel
theorem d46_201 : decode (mB m46) 201 = .ok (.goto 4, 3) := by decide +kernel
theorem d46_204 : decode (mB m46) 204 = .ok (.iconst 0, 1) := by decide +kernel
theorem d46_205 : decode (mB m46) 205 = .ok (.iload 11, 2) := by decide +kernel
theorem d46_207 : decode (mB m46) 207 = .ok (.iload 12, 2) := by decide +kernel
theorem d46_209 : decode (mB m46) 209 = .ok (.if_icmp .ne 7, 3) := by decide +kernel
theorem d46_212 : decode (mB m46) 212 = .ok (.iconst 1, 1) := by decide +kernel
theorem d46_213 : decode (mB m46) 213 = .ok (.goto 4, 3) := by decide +kernel
theorem d46_216 : decode (mB m46) 216 = .ok (.iconst 0, 1) := by decide +kernel
theorem d46_217 : decode (mB m46) 217 = .ok (.if_icmp .ne 26, 3) := by decide +kernel
theorem d46_220 : decode (mB m46) 220 = .ok (.iload 9, 2) := by decide +kernel
theorem d46_222 : decode (mB m46) 222 = .ok (.ifCond .ge 7, 3) := by decide +kernel
theorem d46_225 : decode (mB m46) 225 = .ok (.iconst 1, 1) := by decide +kernel
theorem d46_226 : decode (mB m46) 226 = .ok (.goto 4, 3) := by decide +kernel
theorem d46_229 : decode (mB m46) 229 = .ok (.iconst 0, 1) := by decide +kernel
theorem d46_230 : decode (mB m46) 230 = .ok (.iload 11, 2) := by decide +kernel
theorem d46_232 : decode (mB m46) 232 = .ok (.ifCond .ge 7, 3) := by decide +kernel
theorem d46_235 : decode (mB m46) 235 = .ok (.iconst 1, 1) := by decide +kernel
theorem d46_236 : decode (mB m46) 236 = .ok (.goto 4, 3) := by decide +kernel
theorem d46_239 : decode (mB m46) 239 = .ok (.iconst 0, 1) := by decide +kernel
theorem d46_240 : decode (mB m46) 240 = .ok (.if_icmp .eq 5, 3) := by decide +kernel
theorem d46_243 : decode (mB m46) 243 = .ok (.iconst 0, 1) := by decide +kernel
theorem d46_244 : decode (mB m46) 244 = .ok (.ireturn, 1) := by decide +kernel
theorem d46_245 : decode (mB m46) 245 = .ok (.aload_n 1, 1) := by decide +kernel
theorem d46_246 : decode (mB m46) 246 = .ok (.iload 5, 2) := by decide +kernel
theorem d46_248 : decode (mB m46) 248 = .ok (.iload 6, 2) := by decide +kernel
theorem d46_250 : decode (mB m46) 250 = .ok (.invokevirtual 58, 3) := by decide +kernel
theorem d46_253 : decode (mB m46) 253 = .ok (.aload_n 2, 1) := by decide +kernel
theorem d46_254 : decode (mB m46) 254 = .ok (.iload 5, 2) := by decide +kernel
theorem d46_256 : decode (mB m46) 256 = .ok (.iload 6, 2) := by decide +kernel
theorem d46_258 : decode (mB m46) 258 = .ok (.invokevirtual 58, 3) := by decide +kernel
theorem d46_261 : decode (mB m46) 261 = .ok (.if_icmp .eq 5, 3) := by decide +kernel
theorem d46_264 : decode (mB m46) 264 = .ok (.iconst 0, 1) := by decide +kernel
theorem d46_265 : decode (mB m46) 265 = .ok (.ireturn, 1) := by decide +kernel
theorem d46_266 : decode (mB m46) 266 = .ok (.aload_n 1, 1) := by decide +kernel
theorem d46_267 : decode (mB m46) 267 = .ok (.iload 9, 2) := by decide +kernel
theorem d46_269 : decode (mB m46) 269 = .ok (.invokevirtual 61, 3) := by decide +kernel
theorem d46_272 : decode (mB m46) 272 = .ok (.istore 13, 2) := by decide +kernel
theorem d46_274 : decode (mB m46) 274 = .ok (.aload_n 2, 1) := by decide +kernel
theorem d46_275 : decode (mB m46) 275 = .ok (.iload 11, 2) := by decide +kernel
theorem d46_277 : decode (mB m46) 277 = .ok (.invokevirtual 61, 3) := by decide +kernel
theorem d46_280 : decode (mB m46) 280 = .ok (.istore 14, 2) := by decide +kernel
theorem d46_282 : decode (mB m46) 282 = .ok (.iload 13, 2) := by decide +kernel
theorem d46_284 : decode (mB m46) 284 = .ok (.iload 14, 2) := by decide +kernel
theorem d46_286 : decode (mB m46) 286 = .ok (.if_icmp .eq 5, 3) := by decide +kernel
theorem d46_289 : decode (mB m46) 289 = .ok (.iconst 0, 1) := by decide +kernel
theorem d46_290 : decode (mB m46) 290 = .ok (.ireturn, 1) := by decide +kernel
theorem d46_291 : decode (mB m46) 291 = .ok (.iinc 4 1, 3) := by decide +kernel
theorem d46_294 : decode (mB m46) 294 = .ok (.goto (-180), 3) := by decide +kernel
theorem d46_297 : decode (mB m46) 297 = .ok (.iconst 0, 1) := by decide +kernel
theorem d46_298 : decode (mB m46) 298 = .ok (.istore 4, 2) := by decide +kernel
theorem d46_300 : decode (mB m46) 300 = .ok (.iload 4, 2) := by decide +kernel
theorem d46_302 : decode (mB m46) 302 = .ok (.bipush 8, 2) := by decide +kernel
theorem d46_304 : decode (mB m46) 304 = .ok (.if_icmp .ge 102, 3) := by decide +kernel
theorem d46_307 : decode (mB m46) 307 = .ok (.aload_n 1, 1) := by decide +kernel
theorem d46_308 : decode (mB m46) 308 = .ok (.iload 4, 2) := by decide +kernel
theorem d46_310 : decode (mB m46) 310 = .ok (.invokevirtual 64, 3) := by decide +kernel
theorem d46_313 : decode (mB m46) 313 = .ok (.istore 5, 2) := by decide +kernel
theorem d46_315 : decode (mB m46) 315 = .ok (.aload_n 2, 1) := by decide +kernel
theorem d46_316 : decode (mB m46) 316 = .ok (.iload 4, 2) := by decide +kernel
theorem d46_318 : decode (mB m46) 318 = .ok (.invokevirtual 64, 3) := by decide +kernel
theorem d46_321 : decode (mB m46) 321 = .ok (.istore 6, 2) := by decide +kernel
theorem d46_323 : decode (mB m46) 323 = .ok (.iload 5, 2) := by decide +kernel
theorem d46_325 : decode (mB m46) 325 = .ok (.iconst 2, 1) := by decide +kernel
theorem d46_326 : decode (mB m46) 326 = .ok (.if_icmp .ne 7, 3) := by decide +kernel
theorem d46_329 : decode (mB m46) 329 = .ok (.iconst 1, 1) := by decide +kernel
theorem d46_330 : decode (mB m46) 330 = .ok (.goto 4, 3) := by decide +kernel
theorem d46_333 : decode (mB m46) 333 = .ok (.iconst 0, 1) := by decide +kernel
theorem d46_334 : decode (mB m46) 334 = .ok (.iload 6, 2) := by decide +kernel
theorem d46_336 : decode (mB m46) 336 = .ok (.iconst 2, 1) := by decide +kernel
theorem d46_337 : decode (mB m46) 337 = .ok (.if_icmp .ne 7, 3) := by decide +kernel
theorem d46_340 : decode (mB m46) 340 = .ok (.iconst 1, 1) := by decide +kernel
theorem d46_341 : decode (mB m46) 341 = .ok (.goto 4, 3) := by decide +kernel
theorem d46_344 : decode (mB m46) 344 = .ok (.iconst 0, 1) := by decide +kernel
theorem d46_345 : decode (mB m46) 345 = .ok (.if_icmp .eq 5, 3) := by decide +kernel
theorem d46_348 : decode (mB m46) 348 = .ok (.iconst 0, 1) := by decide +kernel
theorem d46_349 : decode (mB m46) 349 = .ok (.ireturn, 1) := by decide +kernel
theorem d46_350 : decode (mB m46) 350 = .ok (.iload 5, 2) := by decide +kernel
theorem d46_352 : decode (mB m46) 352 = .ok (.iconst 3, 1) := by decide +kernel
theorem d46_353 : decode (mB m46) 353 = .ok (.if_icmp .ne 7, 3) := by decide +kernel
theorem d46_356 : decode (mB m46) 356 = .ok (.iconst 1, 1) := by decide +kernel
theorem d46_357 : decode (mB m46) 357 = .ok (.goto 4, 3) := by decide +kernel
theorem d46_360 : decode (mB m46) 360 = .ok (.iconst 0, 1) := by decide +kernel
theorem d46_361 : decode (mB m46) 361 = .ok (.iload 6, 2) := by decide +kernel
theorem d46_363 : decode (mB m46) 363 = .ok (.iconst 3, 1) := by decide +kernel
theorem d46_364 : decode (mB m46) 364 = .ok (.if_icmp .ne 7, 3) := by decide +kernel
theorem d46_367 : decode (mB m46) 367 = .ok (.iconst 1, 1) := by decide +kernel
theorem d46_368 : decode (mB m46) 368 = .ok (.goto 4, 3) := by decide +kernel
theorem d46_371 : decode (mB m46) 371 = .ok (.iconst 0, 1) := by decide +kernel
theorem d46_372 : decode (mB m46) 372 = .ok (.if_icmp .eq 5, 3) := by decide +kernel
theorem d46_375 : decode (mB m46) 375 = .ok (.iconst 0, 1) := by decide +kernel
theorem d46_376 : decode (mB m46) 376 = .ok (.ireturn, 1) := by decide +kernel
theorem d46_377 : decode (mB m46) 377 = .ok (.iload 5, 2) := by decide +kernel
theorem d46_379 : decode (mB m46) 379 = .ok (.iconst 2, 1) := by decide +kernel
theorem d46_380 : decode (mB m46) 380 = .ok (.if_icmp .ne 20, 3) := by decide +kernel
theorem d46_383 : decode (mB m46) 383 = .ok (.aload_n 1, 1) := by decide +kernel
theorem d46_384 : decode (mB m46) 384 = .ok (.iload 4, 2) := by decide +kernel
theorem d46_386 : decode (mB m46) 386 = .ok (.invokevirtual 67, 3) := by decide +kernel
theorem d46_389 : decode (mB m46) 389 = .ok (.aload_n 2, 1) := by decide +kernel
theorem d46_390 : decode (mB m46) 390 = .ok (.iload 4, 2) := by decide +kernel
theorem d46_392 : decode (mB m46) 392 = .ok (.invokevirtual 67, 3) := by decide +kernel
theorem d46_395 : decode (mB m46) 395 = .ok (.if_icmp .eq 5, 3) := by decide +kernel
theorem d46_398 : decode (mB m46) 398 = .ok (.iconst 0, 1) := by decide +kernel
theorem d46_399 : decode (mB m46) 399 = .ok (.ireturn, 1) := by decide +kernel
theorem d46_400 : decode (mB m46) 400 = .ok (.iinc 4 1, 3) := by decide +kernel
theorem d46_403 : decode (mB m46) 403 = .ok (.goto (-103), 3) := by decide +kernel
theorem d46_406 : decode (mB m46) 406 = .ok (.iconst 0, 1) := by decide +kernel
theorem d46_407 : decode (mB m46) 407 = .ok (.istore 4, 2) := by decide +kernel
theorem d46_409 : decode (mB m46) 409 = .ok (.iconst 0, 1) := by decide +kernel
theorem d46_410 : decode (mB m46) 410 = .ok (.istore 5, 2) := by decide +kernel
theorem d46_412 : decode (mB m46) 412 = .ok (.iload 5, 2) := by decide +kernel
theorem d46_414 : decode (mB m46) 414 = .ok (.bipush 64, 2) := by decide +kernel
theorem d46_416 : decode (mB m46) 416 = .ok (.if_icmp .ge 36, 3) := by decide +kernel
theorem d46_419 : decode (mB m46) 419 = .ok (.aload_n 2, 1) := by decide +kernel
theorem d46_420 : decode (mB m46) 420 = .ok (.iconst 1, 1) := by decide +kernel
theorem d46_421 : decode (mB m46) 421 = .ok (.invokevirtual 39, 3) := by decide +kernel
theorem d46_424 : decode (mB m46) 424 = .ok (.istore 6, 2) := by decide +kernel
theorem d46_426 : decode (mB m46) 426 = .ok (.iload 6, 2) := by decide +kernel
theorem d46_428 : decode (mB m46) 428 = .ok (.ifCond .lt 9, 3) := by decide +kernel
theorem d46_431 : decode (mB m46) 431 = .ok (.iload 6, 2) := by decide +kernel
theorem d46_433 : decode (mB m46) 433 = .ok (.iconst 1, 1) := by decide +kernel
theorem d46_434 : decode (mB m46) 434 = .ok (.if_icmp .le 5, 3) := by decide +kernel
theorem d46_437 : decode (mB m46) 437 = .ok (.iconst 0, 1) := by decide +kernel
theorem d46_438 : decode (mB m46) 438 = .ok (.ireturn, 1) := by decide +kernel
theorem d46_439 : decode (mB m46) 439 = .ok (.iload 4, 2) := by decide +kernel
theorem d46_441 : decode (mB m46) 441 = .ok (.iload 6, 2) := by decide +kernel
theorem d46_443 : decode (mB m46) 443 = .ok (.iadd, 1) := by decide +kernel
theorem d46_444 : decode (mB m46) 444 = .ok (.istore 4, 2) := by decide +kernel
theorem d46_446 : decode (mB m46) 446 = .ok (.iinc 5 1, 3) := by decide +kernel
theorem d46_449 : decode (mB m46) 449 = .ok (.goto (-37), 3) := by decide +kernel
theorem d46_452 : decode (mB m46) 452 = .ok (.iload 4, 2) := by decide +kernel
theorem d46_454 : decode (mB m46) 454 = .ok (.iload_n 3, 1) := by decide +kernel
theorem d46_455 : decode (mB m46) 455 = .ok (.if_icmp .eq 5, 3) := by decide +kernel
theorem d46_458 : decode (mB m46) 458 = .ok (.iconst 0, 1) := by decide +kernel
theorem d46_459 : decode (mB m46) 459 = .ok (.ireturn, 1) := by decide +kernel
theorem d46_460 : decode (mB m46) 460 = .ok (.iconst 0, 1) := by decide +kernel
theorem d46_461 : decode (mB m46) 461 = .ok (.istore 5, 2) := by decide +kernel
theorem d46_463 : decode (mB m46) 463 = .ok (.iload 5, 2) := by decide +kernel
theorem d46_465 : decode (mB m46) 465 = .ok (.bipush 8, 2) := by decide +kernel
theorem d46_467 : decode (mB m46) 467 = .ok (.if_icmp .ge 58, 3) := by decide +kernel
theorem d46_470 : decode (mB m46) 470 = .ok (.aload_n 1, 1) := by decide +kernel
theorem d46_471 : decode (mB m46) 471 = .ok (.iload 5, 2) := by decide +kernel
theorem d46_473 : decode (mB m46) 473 = .ok (.invokevirtual 64, 3) := by decide +kernel
theorem d46_476 : decode (mB m46) 476 = .ok (.aload_n 2, 1) := by decide +kernel
theorem d46_477 : decode (mB m46) 477 = .ok (.iload 5, 2) := by decide +kernel
theorem d46_479 : decode (mB m46) 479 = .ok (.invokevirtual 64, 3) := by decide +kernel
theorem d46_482 : decode (mB m46) 482 = .ok (.if_icmp .ne 18, 3) := by decide +kernel
theorem d46_485 : decode (mB m46) 485 = .ok (.aload_n 1, 1) := by decide +kernel
theorem d46_486 : decode (mB m46) 486 = .ok (.iload 5, 2) := by decide +kernel
theorem d46_488 : decode (mB m46) 488 = .ok (.invokevirtual 67, 3) := by decide +kernel
theorem d46_491 : decode (mB m46) 491 = .ok (.aload_n 2, 1) := by decide +kernel
theorem d46_492 : decode (mB m46) 492 = .ok (.iload 5, 2) := by decide +kernel
theorem d46_494 : decode (mB m46) 494 = .ok (.invokevirtual 67, 3) := by decide +kernel
theorem d46_497 : decode (mB m46) 497 = .ok (.if_icmp .eq 5, 3) := by decide +kernel
theorem d46_500 : decode (mB m46) 500 = .ok (.iconst 0, 1) := by decide +kernel
theorem d46_501 : decode (mB m46) 501 = .ok (.ireturn, 1) := by decide +kernel
theorem d46_502 : decode (mB m46) 502 = .ok (.aload_n 1, 1) := by decide +kernel
theorem d46_503 : decode (mB m46) 503 = .ok (.iload 5, 2) := by decide +kernel
theorem d46_505 : decode (mB m46) 505 = .ok (.invokevirtual 61, 3) := by decide +kernel
theorem d46_508 : decode (mB m46) 508 = .ok (.aload_n 2, 1) := by decide +kernel
theorem d46_509 : decode (mB m46) 509 = .ok (.iload 5, 2) := by decide +kernel
theorem d46_511 : decode (mB m46) 511 = .ok (.invokevirtual 61, 3) := by decide +kernel
theorem d46_514 : decode (mB m46) 514 = .ok (.if_icmp .eq 5, 3) := by decide +kernel
theorem d46_517 : decode (mB m46) 517 = .ok (.iconst 0, 1) := by decide +kernel
theorem d46_518 : decode (mB m46) 518 = .ok (.ireturn, 1) := by decide +kernel
theorem d46_519 : decode (mB m46) 519 = .ok (.iinc 5 1, 3) := by decide +kernel
theorem d46_522 : decode (mB m46) 522 = .ok (.goto (-59), 3) := by decide +kernel
theorem d46_525 : decode (mB m46) 525 = .ok (.iconst 0, 1) := by decide +kernel
theorem d46_526 : decode (mB m46) 526 = .ok (.istore 5, 2) := by decide +kernel
theorem d46_528 : decode (mB m46) 528 = .ok (.iload 5, 2) := by decide +kernel
theorem d46_530 : decode (mB m46) 530 = .ok (.bipush 16, 2) := by decide +kernel
theorem d46_532 : decode (mB m46) 532 = .ok (.if_icmp .ge 38, 3) := by decide +kernel
theorem d46_535 : decode (mB m46) 535 = .ok (.aload_n 1, 1) := by decide +kernel
theorem d46_536 : decode (mB m46) 536 = .ok (.iload 5, 2) := by decide +kernel
theorem d46_538 : decode (mB m46) 538 = .ok (.iconst 2, 1) := by decide +kernel
theorem d46_539 : decode (mB m46) 539 = .ok (.ishr, 1) := by decide +kernel
theorem d46_540 : decode (mB m46) 540 = .ok (.iload 5, 2) := by decide +kernel
theorem d46_542 : decode (mB m46) 542 = .ok (.iconst 3, 1) := by decide +kernel
theorem d46_543 : decode (mB m46) 543 = .ok (.iand, 1) := by decide +kernel
theorem d46_544 : decode (mB m46) 544 = .ok (.invokevirtual 55, 3) := by decide +kernel
theorem d46_547 : decode (mB m46) 547 = .ok (.aload_n 2, 1) := by decide +kernel
theorem d46_548 : decode (mB m46) 548 = .ok (.iload 5, 2) := by decide +kernel
theorem d46_550 : decode (mB m46) 550 = .ok (.iconst 2, 1) := by decide +kernel
theorem d46_551 : decode (mB m46) 551 = .ok (.ishr, 1) := by decide +kernel
theorem d46_552 : decode (mB m46) 552 = .ok (.iload 5, 2) := by decide +kernel
theorem d46_554 : decode (mB m46) 554 = .ok (.iconst 3, 1) := by decide +kernel
theorem d46_555 : decode (mB m46) 555 = .ok (.iand, 1) := by decide +kernel
theorem d46_556 : decode (mB m46) 556 = .ok (.invokevirtual 55, 3) := by decide +kernel
theorem d46_559 : decode (mB m46) 559 = .ok (.if_icmp .eq 5, 3) := by decide +kernel
theorem d46_562 : decode (mB m46) 562 = .ok (.iconst 0, 1) := by decide +kernel
theorem d46_563 : decode (mB m46) 563 = .ok (.ireturn, 1) := by decide +kernel
theorem d46_564 : decode (mB m46) 564 = .ok (.iinc 5 1, 3) := by decide +kernel
theorem d46_567 : decode (mB m46) 567 = .ok (.goto (-39), 3) := by decide +kernel
theorem d46_570 : decode (mB m46) 570 = .ok (.iconst 1, 1) := by decide +kernel
theorem d46_571 : decode (mB m46) 571 = .ok (.ireturn, 1) := by decide +kernel
theorem cb_m4 : (-4 : Int32) = (Int8.ofInt (-4)).toInt32 := by decide
theorem cb_m3 : (-3 : Int32) = (Int8.ofInt (-3)).toInt32 := by decide
theorem cb_m2 : (-2 : Int32) = (Int8.ofInt (-2)).toInt32 := by decide
theorem cb_6 : (6 : Int32) = (Int8.ofInt (6)).toInt32 := by decide
theorem cb_7 : (7 : Int32) = (Int8.ofInt (7)).toInt32 := by decide
theorem cb_8 : (8 : Int32) = (Int8.ofInt (8)).toInt32 := by decide
theorem cb_9 : (9 : Int32) = (Int8.ofInt (9)).toInt32 := by decide
theorem cb_15 : (15 : Int32) = (Int8.ofInt (15)).toInt32 := by decide
theorem cb_16 : (16 : Int32) = (Int8.ofInt (16)).toInt32 := by decide
theorem cb_32 : (32 : Int32) = (Int8.ofInt (32)).toInt32 := by decide
theorem cb_56 : (56 : Int32) = (Int8.ofInt (56)).toInt32 := by decide
theorem cb_63 : (63 : Int32) = (Int8.ofInt (63)).toInt32 := by decide
theorem cb_64 : (64 : Int32) = (Int8.ofInt (64)).toInt32 := by decide
theorem cb_65 : (65 : Int32) = (Int8.ofInt (65)).toInt32 := by decide
theorem ci_m1 : (-1 : Int32) = Int32.ofInt (-1) := by decide
theorem ci_0 : (0 : Int32) = Int32.ofInt (0) := by decide
theorem ci_1 : (1 : Int32) = Int32.ofInt (1) := by decide
theorem ci_2 : (2 : Int32) = Int32.ofInt (2) := by decide
theorem ci_3 : (3 : Int32) = Int32.ofInt (3) := by decide
theorem ci_4 : (4 : Int32) = Int32.ofInt (4) := by decide
theorem ci_5 : (5 : Int32) = Int32.ofInt (5) := by decide
theorem ci_8 : (8 : Int32) = Int32.ofInt (8) := by decide
theorem ci_16 : (16 : Int32) = Int32.ofInt (16) := by decide
theorem ci_32 : (32 : Int32) = Int32.ofInt (32) := by decide
theorem cl_0 : (0 : Int64) = Int64.ofNat ((0 : Fin 2)) := by decide
theorem cl_1 : (1 : Int64) = Int64.ofNat ((1 : Fin 2)) := by decide
theorem cs_256 : (256 : Int32) = (Int16.ofInt (256)).toInt32 := by decide
theorem j_1_5 : 0 ≤ ((1 : Nat) : Int) + (5) ∧ (((1 : Nat) : Int) + (5)).toNat = 6 := by decide
theorem j_1_7 : 0 ≤ ((1 : Nat) : Int) + (7) ∧ (((1 : Nat) : Int) + (7)).toNat = 8 := by decide
theorem j_1_8 : 0 ≤ ((1 : Nat) : Int) + (8) ∧ (((1 : Nat) : Int) + (8)).toNat = 9 := by decide
theorem j_1_9 : 0 ≤ ((1 : Nat) : Int) + (9) ∧ (((1 : Nat) : Int) + (9)).toNat = 10 := by decide
theorem j_1_15 : 0 ≤ ((1 : Nat) : Int) + (15) ∧ (((1 : Nat) : Int) + (15)).toNat = 16 := by decide
theorem j_1_17 : 0 ≤ ((1 : Nat) : Int) + (17) ∧ (((1 : Nat) : Int) + (17)).toNat = 18 := by decide
theorem j_2_5 : 0 ≤ ((2 : Nat) : Int) + (5) ∧ (((2 : Nat) : Int) + (5)).toNat = 7 := by decide
theorem j_3_5 : 0 ≤ ((3 : Nat) : Int) + (5) ∧ (((3 : Nat) : Int) + (5)).toNat = 8 := by decide
theorem j_4_4 : 0 ≤ ((4 : Nat) : Int) + (4) ∧ (((4 : Nat) : Int) + (4)).toNat = 8 := by decide
theorem j_5_4 : 0 ≤ ((5 : Nat) : Int) + (4) ∧ (((5 : Nat) : Int) + (4)).toNat = 9 := by decide
theorem j_5_5 : 0 ≤ ((5 : Nat) : Int) + (5) ∧ (((5 : Nat) : Int) + (5)).toNat = 10 := by decide
theorem j_5_11 : 0 ≤ ((5 : Nat) : Int) + (11) ∧ (((5 : Nat) : Int) + (11)).toNat = 16 := by decide
theorem j_5_58 : 0 ≤ ((5 : Nat) : Int) + (58) ∧ (((5 : Nat) : Int) + (58)).toNat = 63 := by decide
theorem j_6_5 : 0 ≤ ((6 : Nat) : Int) + (5) ∧ (((6 : Nat) : Int) + (5)).toNat = 11 := by decide
theorem j_7_5 : 0 ≤ ((7 : Nat) : Int) + (5) ∧ (((7 : Nat) : Int) + (5)).toNat = 12 := by decide
theorem j_7_11 : 0 ≤ ((7 : Nat) : Int) + (11) ∧ (((7 : Nat) : Int) + (11)).toNat = 18 := by decide
theorem j_8_4 : 0 ≤ ((8 : Nat) : Int) + (4) ∧ (((8 : Nat) : Int) + (4)).toNat = 12 := by decide
theorem j_8_5 : 0 ≤ ((8 : Nat) : Int) + (5) ∧ (((8 : Nat) : Int) + (5)).toNat = 13 := by decide
theorem j_9_5 : 0 ≤ ((9 : Nat) : Int) + (5) ∧ (((9 : Nat) : Int) + (5)).toNat = 14 := by decide
theorem j_9_7 : 0 ≤ ((9 : Nat) : Int) + (7) ∧ (((9 : Nat) : Int) + (7)).toNat = 16 := by decide
theorem j_10_5 : 0 ≤ ((10 : Nat) : Int) + (5) ∧ (((10 : Nat) : Int) + (5)).toNat = 15 := by decide
theorem j_10_6 : 0 ≤ ((10 : Nat) : Int) + (6) ∧ (((10 : Nat) : Int) + (6)).toNat = 16 := by decide
theorem j_10_7 : 0 ≤ ((10 : Nat) : Int) + (7) ∧ (((10 : Nat) : Int) + (7)).toNat = 17 := by decide
theorem j_10_24 : 0 ≤ ((10 : Nat) : Int) + (24) ∧ (((10 : Nat) : Int) + (24)).toNat = 34 := by decide
theorem j_11_5 : 0 ≤ ((11 : Nat) : Int) + (5) ∧ (((11 : Nat) : Int) + (5)).toNat = 16 := by decide
theorem j_12_15 : 0 ≤ ((12 : Nat) : Int) + (15) ∧ (((12 : Nat) : Int) + (15)).toNat = 27 := by decide
theorem j_13_4 : 0 ≤ ((13 : Nat) : Int) + (4) ∧ (((13 : Nat) : Int) + (4)).toNat = 17 := by decide
theorem j_14_33 : 0 ≤ ((14 : Nat) : Int) + (33) ∧ (((14 : Nat) : Int) + (33)).toNat = 47 := by decide
theorem j_15_4 : 0 ≤ ((15 : Nat) : Int) + (4) ∧ (((15 : Nat) : Int) + (4)).toNat = 19 := by decide
theorem j_17_5 : 0 ≤ ((17 : Nat) : Int) + (5) ∧ (((17 : Nat) : Int) + (5)).toNat = 22 := by decide
theorem j_17_17 : 0 ≤ ((17 : Nat) : Int) + (17) ∧ (((17 : Nat) : Int) + (17)).toNat = 34 := by decide
theorem j_18_5 : 0 ≤ ((18 : Nat) : Int) + (5) ∧ (((18 : Nat) : Int) + (5)).toNat = 23 := by decide
theorem j_18_8 : 0 ≤ ((18 : Nat) : Int) + (8) ∧ (((18 : Nat) : Int) + (8)).toNat = 26 := by decide
theorem j_18_29 : 0 ≤ ((18 : Nat) : Int) + (29) ∧ (((18 : Nat) : Int) + (29)).toNat = 47 := by decide
theorem j_19_7 : 0 ≤ ((19 : Nat) : Int) + (7) ∧ (((19 : Nat) : Int) + (7)).toNat = 26 := by decide
theorem j_20_7 : 0 ≤ ((20 : Nat) : Int) + (7) ∧ (((20 : Nat) : Int) + (7)).toNat = 27 := by decide
theorem j_20_9 : 0 ≤ ((20 : Nat) : Int) + (9) ∧ (((20 : Nat) : Int) + (9)).toNat = 29 := by decide
theorem j_20_13 : 0 ≤ ((20 : Nat) : Int) + (13) ∧ (((20 : Nat) : Int) + (13)).toNat = 33 := by decide
theorem j_21_6 : 0 ≤ ((21 : Nat) : Int) + (6) ∧ (((21 : Nat) : Int) + (6)).toNat = 27 := by decide
theorem j_21_7 : 0 ≤ ((21 : Nat) : Int) + (7) ∧ (((21 : Nat) : Int) + (7)).toNat = 28 := by decide
theorem j_21_13 : 0 ≤ ((21 : Nat) : Int) + (13) ∧ (((21 : Nat) : Int) + (13)).toNat = 34 := by decide
theorem j_22_6 : 0 ≤ ((22 : Nat) : Int) + (6) ∧ (((22 : Nat) : Int) + (6)).toNat = 28 := by decide
theorem j_22_16 : 0 ≤ ((22 : Nat) : Int) + (16) ∧ (((22 : Nat) : Int) + (16)).toNat = 38 := by decide
theorem j_23_5 : 0 ≤ ((23 : Nat) : Int) + (5) ∧ (((23 : Nat) : Int) + (5)).toNat = 28 := by decide
theorem j_24_4 : 0 ≤ ((24 : Nat) : Int) + (4) ∧ (((24 : Nat) : Int) + (4)).toNat = 28 := by decide
theorem j_24_6 : 0 ≤ ((24 : Nat) : Int) + (6) ∧ (((24 : Nat) : Int) + (6)).toNat = 30 := by decide
theorem j_24_12 : 0 ≤ ((24 : Nat) : Int) + (12) ∧ (((24 : Nat) : Int) + (12)).toNat = 36 := by decide
theorem j_24_23 : 0 ≤ ((24 : Nat) : Int) + (23) ∧ (((24 : Nat) : Int) + (23)).toNat = 47 := by decide
theorem j_25_4 : 0 ≤ ((25 : Nat) : Int) + (4) ∧ (((25 : Nat) : Int) + (4)).toNat = 29 := by decide
theorem j_25_40 : 0 ≤ ((25 : Nat) : Int) + (40) ∧ (((25 : Nat) : Int) + (40)).toNat = 65 := by decide
theorem j_26_5 : 0 ≤ ((26 : Nat) : Int) + (5) ∧ (((26 : Nat) : Int) + (5)).toNat = 31 := by decide
theorem j_26_17 : 0 ≤ ((26 : Nat) : Int) + (17) ∧ (((26 : Nat) : Int) + (17)).toNat = 43 := by decide
theorem j_28_7 : 0 ≤ ((28 : Nat) : Int) + (7) ∧ (((28 : Nat) : Int) + (7)).toNat = 35 := by decide
theorem j_28_10 : 0 ≤ ((28 : Nat) : Int) + (10) ∧ (((28 : Nat) : Int) + (10)).toNat = 38 := by decide
theorem j_29_62 : 0 ≤ ((29 : Nat) : Int) + (62) ∧ (((29 : Nat) : Int) + (62)).toNat = 91 := by decide
theorem j_31_m24 : 0 ≤ ((31 : Nat) : Int) + (-24) ∧ (((31 : Nat) : Int) + (-24)).toNat = 7 := by decide
theorem j_32_5 : 0 ≤ ((32 : Nat) : Int) + (5) ∧ (((32 : Nat) : Int) + (5)).toNat = 37 := by decide
theorem j_33_4 : 0 ≤ ((33 : Nat) : Int) + (4) ∧ (((33 : Nat) : Int) + (4)).toNat = 37 := by decide
theorem j_35_14 : 0 ≤ ((35 : Nat) : Int) + (14) ∧ (((35 : Nat) : Int) + (14)).toNat = 49 := by decide
theorem j_37_7 : 0 ≤ ((37 : Nat) : Int) + (7) ∧ (((37 : Nat) : Int) + (7)).toNat = 44 := by decide
theorem j_37_69 : 0 ≤ ((37 : Nat) : Int) + (69) ∧ (((37 : Nat) : Int) + (69)).toNat = 106 := by decide
theorem j_38_6 : 0 ≤ ((38 : Nat) : Int) + (6) ∧ (((38 : Nat) : Int) + (6)).toNat = 44 := by decide
theorem j_39_14 : 0 ≤ ((39 : Nat) : Int) + (14) ∧ (((39 : Nat) : Int) + (14)).toNat = 53 := by decide
theorem j_40_6 : 0 ≤ ((40 : Nat) : Int) + (6) ∧ (((40 : Nat) : Int) + (6)).toNat = 46 := by decide
theorem j_40_13 : 0 ≤ ((40 : Nat) : Int) + (13) ∧ (((40 : Nat) : Int) + (13)).toNat = 53 := by decide
theorem j_40_140 : 0 ≤ ((40 : Nat) : Int) + (140) ∧ (((40 : Nat) : Int) + (140)).toNat = 180 := by decide
theorem j_42_13 : 0 ≤ ((42 : Nat) : Int) + (13) ∧ (((42 : Nat) : Int) + (13)).toNat = 55 := by decide
theorem j_43_6 : 0 ≤ ((43 : Nat) : Int) + (6) ∧ (((43 : Nat) : Int) + (6)).toNat = 49 := by decide
theorem j_44_m34 : 0 ≤ ((44 : Nat) : Int) + (-34) ∧ (((44 : Nat) : Int) + (-34)).toNat = 10 := by decide
theorem j_44_6 : 0 ≤ ((44 : Nat) : Int) + (6) ∧ (((44 : Nat) : Int) + (6)).toNat = 50 := by decide
theorem j_45_25 : 0 ≤ ((45 : Nat) : Int) + (25) ∧ (((45 : Nat) : Int) + (25)).toNat = 70 := by decide
theorem j_46_7 : 0 ≤ ((46 : Nat) : Int) + (7) ∧ (((46 : Nat) : Int) + (7)).toNat = 53 := by decide
theorem j_46_12 : 0 ≤ ((46 : Nat) : Int) + (12) ∧ (((46 : Nat) : Int) + (12)).toNat = 58 := by decide
theorem j_47_20 : 0 ≤ ((47 : Nat) : Int) + (20) ∧ (((47 : Nat) : Int) + (20)).toNat = 67 := by decide
theorem j_50_12 : 0 ≤ ((50 : Nat) : Int) + (12) ∧ (((50 : Nat) : Int) + (12)).toNat = 62 := by decide
theorem j_52_6 : 0 ≤ ((52 : Nat) : Int) + (6) ∧ (((52 : Nat) : Int) + (6)).toNat = 58 := by decide
theorem j_53_14 : 0 ≤ ((53 : Nat) : Int) + (14) ∧ (((53 : Nat) : Int) + (14)).toNat = 67 := by decide
theorem j_55_51 : 0 ≤ ((55 : Nat) : Int) + (51) ∧ (((55 : Nat) : Int) + (51)).toNat = 106 := by decide
theorem j_56_5 : 0 ≤ ((56 : Nat) : Int) + (5) ∧ (((56 : Nat) : Int) + (5)).toNat = 61 := by decide
theorem j_56_9 : 0 ≤ ((56 : Nat) : Int) + (9) ∧ (((56 : Nat) : Int) + (9)).toNat = 65 := by decide
theorem j_60_m58 : 0 ≤ ((60 : Nat) : Int) + (-58) ∧ (((60 : Nat) : Int) + (-58)).toNat = 2 := by decide
theorem j_60_13 : 0 ≤ ((60 : Nat) : Int) + (13) ∧ (((60 : Nat) : Int) + (13)).toNat = 73 := by decide
theorem j_62_m40 : 0 ≤ ((62 : Nat) : Int) + (-40) ∧ (((62 : Nat) : Int) + (-40)).toNat = 22 := by decide
theorem j_63_13 : 0 ≤ ((63 : Nat) : Int) + (13) ∧ (((63 : Nat) : Int) + (13)).toNat = 76 := by decide
theorem j_64_11 : 0 ≤ ((64 : Nat) : Int) + (11) ∧ (((64 : Nat) : Int) + (11)).toNat = 75 := by decide
theorem j_67_113 : 0 ≤ ((67 : Nat) : Int) + (113) ∧ (((67 : Nat) : Int) + (113)).toNat = 180 := by decide
theorem j_68_6 : 0 ≤ ((68 : Nat) : Int) + (6) ∧ (((68 : Nat) : Int) + (6)).toNat = 74 := by decide
theorem j_72_15 : 0 ≤ ((72 : Nat) : Int) + (15) ∧ (((72 : Nat) : Int) + (15)).toNat = 87 := by decide
theorem j_72_16 : 0 ≤ ((72 : Nat) : Int) + (16) ∧ (((72 : Nat) : Int) + (16)).toNat = 88 := by decide
theorem j_77_18 : 0 ≤ ((77 : Nat) : Int) + (18) ∧ (((77 : Nat) : Int) + (18)).toNat = 95 := by decide
theorem j_79_12 : 0 ≤ ((79 : Nat) : Int) + (12) ∧ (((79 : Nat) : Int) + (12)).toNat = 91 := by decide
theorem j_84_11 : 0 ≤ ((84 : Nat) : Int) + (11) ∧ (((84 : Nat) : Int) + (11)).toNat = 95 := by decide
theorem j_84_12 : 0 ≤ ((84 : Nat) : Int) + (12) ∧ (((84 : Nat) : Int) + (12)).toNat = 96 := by decide
theorem j_84_96 : 0 ≤ ((84 : Nat) : Int) + (96) ∧ (((84 : Nat) : Int) + (96)).toNat = 180 := by decide
theorem j_85_49 : 0 ≤ ((85 : Nat) : Int) + (49) ∧ (((85 : Nat) : Int) + (49)).toNat = 134 := by decide
theorem j_88_m64 : 0 ≤ ((88 : Nat) : Int) + (-64) ∧ (((88 : Nat) : Int) + (-64)).toNat = 24 := by decide
theorem j_89_17 : 0 ≤ ((89 : Nat) : Int) + (17) ∧ (((89 : Nat) : Int) + (17)).toNat = 106 := by decide
theorem j_90_16 : 0 ≤ ((90 : Nat) : Int) + (16) ∧ (((90 : Nat) : Int) + (16)).toNat = 106 := by decide
theorem j_97_12 : 0 ≤ ((97 : Nat) : Int) + (12) ∧ (((97 : Nat) : Int) + (12)).toNat = 109 := by decide
theorem j_103_m69 : 0 ≤ ((103 : Nat) : Int) + (-69) ∧ (((103 : Nat) : Int) + (-69)).toNat = 34 := by decide
theorem j_103_31 : 0 ≤ ((103 : Nat) : Int) + (31) ∧ (((103 : Nat) : Int) + (31)).toNat = 134 := by decide
theorem j_103_77 : 0 ≤ ((103 : Nat) : Int) + (77) ∧ (((103 : Nat) : Int) + (77)).toNat = 180 := by decide
theorem j_104_12 : 0 ≤ ((104 : Nat) : Int) + (12) ∧ (((104 : Nat) : Int) + (12)).toNat = 116 := by decide
theorem j_106_5 : 0 ≤ ((106 : Nat) : Int) + (5) ∧ (((106 : Nat) : Int) + (5)).toNat = 111 := by decide
theorem j_108_13 : 0 ≤ ((108 : Nat) : Int) + (13) ∧ (((108 : Nat) : Int) + (13)).toNat = 121 := by decide
theorem j_108_16 : 0 ≤ ((108 : Nat) : Int) + (16) ∧ (((108 : Nat) : Int) + (16)).toNat = 124 := by decide
theorem j_115_6 : 0 ≤ ((115 : Nat) : Int) + (6) ∧ (((115 : Nat) : Int) + (6)).toNat = 121 := by decide
theorem j_118_62 : 0 ≤ ((118 : Nat) : Int) + (62) ∧ (((118 : Nat) : Int) + (62)).toNat = 180 := by decide
theorem j_119_178 : 0 ≤ ((119 : Nat) : Int) + (178) ∧ (((119 : Nat) : Int) + (178)).toNat = 297 := by decide
theorem j_121_13 : 0 ≤ ((121 : Nat) : Int) + (13) ∧ (((121 : Nat) : Int) + (13)).toNat = 134 := by decide
theorem j_122_6 : 0 ≤ ((122 : Nat) : Int) + (6) ∧ (((122 : Nat) : Int) + (6)).toNat = 128 := by decide
theorem j_123_13 : 0 ≤ ((123 : Nat) : Int) + (13) ∧ (((123 : Nat) : Int) + (13)).toNat = 136 := by decide
theorem j_133_47 : 0 ≤ ((133 : Nat) : Int) + (47) ∧ (((133 : Nat) : Int) + (47)).toNat = 180 := by decide
theorem j_139_14 : 0 ≤ ((139 : Nat) : Int) + (14) ∧ (((139 : Nat) : Int) + (14)).toNat = 153 := by decide
theorem j_150_30 : 0 ≤ ((150 : Nat) : Int) + (30) ∧ (((150 : Nat) : Int) + (30)).toNat = 180 := by decide
theorem j_156_13 : 0 ≤ ((156 : Nat) : Int) + (13) ∧ (((156 : Nat) : Int) + (13)).toNat = 169 := by decide
theorem j_166_14 : 0 ≤ ((166 : Nat) : Int) + (14) ∧ (((166 : Nat) : Int) + (14)).toNat = 180 := by decide
theorem j_197_7 : 0 ≤ ((197 : Nat) : Int) + (7) ∧ (((197 : Nat) : Int) + (7)).toNat = 204 := by decide
theorem j_201_4 : 0 ≤ ((201 : Nat) : Int) + (4) ∧ (((201 : Nat) : Int) + (4)).toNat = 205 := by decide
theorem j_209_7 : 0 ≤ ((209 : Nat) : Int) + (7) ∧ (((209 : Nat) : Int) + (7)).toNat = 216 := by decide
theorem j_213_4 : 0 ≤ ((213 : Nat) : Int) + (4) ∧ (((213 : Nat) : Int) + (4)).toNat = 217 := by decide
theorem j_217_26 : 0 ≤ ((217 : Nat) : Int) + (26) ∧ (((217 : Nat) : Int) + (26)).toNat = 243 := by decide
theorem j_222_7 : 0 ≤ ((222 : Nat) : Int) + (7) ∧ (((222 : Nat) : Int) + (7)).toNat = 229 := by decide
theorem j_226_4 : 0 ≤ ((226 : Nat) : Int) + (4) ∧ (((226 : Nat) : Int) + (4)).toNat = 230 := by decide
theorem j_232_7 : 0 ≤ ((232 : Nat) : Int) + (7) ∧ (((232 : Nat) : Int) + (7)).toNat = 239 := by decide
theorem j_236_4 : 0 ≤ ((236 : Nat) : Int) + (4) ∧ (((236 : Nat) : Int) + (4)).toNat = 240 := by decide
theorem j_240_5 : 0 ≤ ((240 : Nat) : Int) + (5) ∧ (((240 : Nat) : Int) + (5)).toNat = 245 := by decide
theorem j_261_5 : 0 ≤ ((261 : Nat) : Int) + (5) ∧ (((261 : Nat) : Int) + (5)).toNat = 266 := by decide
theorem j_286_5 : 0 ≤ ((286 : Nat) : Int) + (5) ∧ (((286 : Nat) : Int) + (5)).toNat = 291 := by decide
theorem j_294_m180 : 0 ≤ ((294 : Nat) : Int) + (-180) ∧ (((294 : Nat) : Int) + (-180)).toNat = 114 := by decide
theorem j_304_102 : 0 ≤ ((304 : Nat) : Int) + (102) ∧ (((304 : Nat) : Int) + (102)).toNat = 406 := by decide
theorem j_326_7 : 0 ≤ ((326 : Nat) : Int) + (7) ∧ (((326 : Nat) : Int) + (7)).toNat = 333 := by decide
theorem j_330_4 : 0 ≤ ((330 : Nat) : Int) + (4) ∧ (((330 : Nat) : Int) + (4)).toNat = 334 := by decide
theorem j_337_7 : 0 ≤ ((337 : Nat) : Int) + (7) ∧ (((337 : Nat) : Int) + (7)).toNat = 344 := by decide
theorem j_341_4 : 0 ≤ ((341 : Nat) : Int) + (4) ∧ (((341 : Nat) : Int) + (4)).toNat = 345 := by decide
theorem j_345_5 : 0 ≤ ((345 : Nat) : Int) + (5) ∧ (((345 : Nat) : Int) + (5)).toNat = 350 := by decide
theorem j_353_7 : 0 ≤ ((353 : Nat) : Int) + (7) ∧ (((353 : Nat) : Int) + (7)).toNat = 360 := by decide
theorem j_357_4 : 0 ≤ ((357 : Nat) : Int) + (4) ∧ (((357 : Nat) : Int) + (4)).toNat = 361 := by decide
theorem j_364_7 : 0 ≤ ((364 : Nat) : Int) + (7) ∧ (((364 : Nat) : Int) + (7)).toNat = 371 := by decide
theorem j_368_4 : 0 ≤ ((368 : Nat) : Int) + (4) ∧ (((368 : Nat) : Int) + (4)).toNat = 372 := by decide
theorem j_372_5 : 0 ≤ ((372 : Nat) : Int) + (5) ∧ (((372 : Nat) : Int) + (5)).toNat = 377 := by decide
theorem j_380_20 : 0 ≤ ((380 : Nat) : Int) + (20) ∧ (((380 : Nat) : Int) + (20)).toNat = 400 := by decide
theorem j_395_5 : 0 ≤ ((395 : Nat) : Int) + (5) ∧ (((395 : Nat) : Int) + (5)).toNat = 400 := by decide
theorem j_403_m103 : 0 ≤ ((403 : Nat) : Int) + (-103) ∧ (((403 : Nat) : Int) + (-103)).toNat = 300 := by decide
theorem j_416_36 : 0 ≤ ((416 : Nat) : Int) + (36) ∧ (((416 : Nat) : Int) + (36)).toNat = 452 := by decide
theorem j_428_9 : 0 ≤ ((428 : Nat) : Int) + (9) ∧ (((428 : Nat) : Int) + (9)).toNat = 437 := by decide
theorem j_434_5 : 0 ≤ ((434 : Nat) : Int) + (5) ∧ (((434 : Nat) : Int) + (5)).toNat = 439 := by decide
theorem j_449_m37 : 0 ≤ ((449 : Nat) : Int) + (-37) ∧ (((449 : Nat) : Int) + (-37)).toNat = 412 := by decide
theorem j_455_5 : 0 ≤ ((455 : Nat) : Int) + (5) ∧ (((455 : Nat) : Int) + (5)).toNat = 460 := by decide
theorem j_467_58 : 0 ≤ ((467 : Nat) : Int) + (58) ∧ (((467 : Nat) : Int) + (58)).toNat = 525 := by decide
theorem j_482_18 : 0 ≤ ((482 : Nat) : Int) + (18) ∧ (((482 : Nat) : Int) + (18)).toNat = 500 := by decide
theorem j_497_5 : 0 ≤ ((497 : Nat) : Int) + (5) ∧ (((497 : Nat) : Int) + (5)).toNat = 502 := by decide
theorem j_514_5 : 0 ≤ ((514 : Nat) : Int) + (5) ∧ (((514 : Nat) : Int) + (5)).toNat = 519 := by decide
theorem j_522_m59 : 0 ≤ ((522 : Nat) : Int) + (-59) ∧ (((522 : Nat) : Int) + (-59)).toNat = 463 := by decide
theorem j_532_38 : 0 ≤ ((532 : Nat) : Int) + (38) ∧ (((532 : Nat) : Int) + (38)).toNat = 570 := by decide
theorem j_559_5 : 0 ≤ ((559 : Nat) : Int) + (5) ∧ (((559 : Nat) : Int) + (5)).toNat = 564 := by decide
theorem j_567_m39 : 0 ≤ ((567 : Nat) : Int) + (-39) ∧ (((567 : Nat) : Int) + (-39)).toNat = 528 := by decide
theorem lk_0_36 : LinkP PP "PageCompactorY" 36 m0 := ⟨List.mem_of_getElem? (i := 28) rfl, List.mem_of_getElem? (i := 29) rfl, List.mem_of_getElem? (i := 30) rfl, List.mem_of_getElem? (i := 31) rfl, rfl, rfl⟩
theorem lk_0_47 : LinkP PP "PageCompactorY" 47 m2 := ⟨List.mem_of_getElem? (i := 36) rfl, List.mem_of_getElem? (i := 37) rfl, List.mem_of_getElem? (i := 38) rfl, List.mem_of_getElem? (i := 39) rfl, rfl, rfl⟩
theorem lk_0_50 : LinkP PP "PageCompactorY" 50 m6 := ⟨List.mem_of_getElem? (i := 89) rfl, List.mem_of_getElem? (i := 90) rfl, List.mem_of_getElem? (i := 91) rfl, List.mem_of_getElem? (i := 92) rfl, rfl, rfl⟩
theorem lk_0_58 : LinkP PP "PageCompactorY" 58 m7 := ⟨List.mem_of_getElem? (i := 93) rfl, List.mem_of_getElem? (i := 94) rfl, List.mem_of_getElem? (i := 95) rfl, List.mem_of_getElem? (i := 96) rfl, rfl, rfl⟩
theorem lk_0_62 : LinkP PP "PageCompactorY" 62 m8 := ⟨List.mem_of_getElem? (i := 75) rfl, List.mem_of_getElem? (i := 76) rfl, List.mem_of_getElem? (i := 77) rfl, List.mem_of_getElem? (i := 78) rfl, rfl, rfl⟩
theorem lk_0_66 : LinkP PP "PageCompactorY" 66 m5 := ⟨List.mem_of_getElem? (i := 71) rfl, List.mem_of_getElem? (i := 72) rfl, List.mem_of_getElem? (i := 73) rfl, List.mem_of_getElem? (i := 74) rfl, rfl, rfl⟩
theorem lk_0_69 : LinkP PP "PageCompactorY" 69 m10 := ⟨List.mem_of_getElem? (i := 102) rfl, List.mem_of_getElem? (i := 103) rfl, List.mem_of_getElem? (i := 104) rfl, List.mem_of_getElem? (i := 105) rfl, rfl, rfl⟩
theorem lk_0_73 : LinkP PP "PageCompactorY" 73 m12 := ⟨List.mem_of_getElem? (i := 111) rfl, List.mem_of_getElem? (i := 112) rfl, List.mem_of_getElem? (i := 113) rfl, List.mem_of_getElem? (i := 114) rfl, rfl, rfl⟩
theorem lk_0_76 : LinkP PP "PageCompactorY" 76 m4 := ⟨List.mem_of_getElem? (i := 67) rfl, List.mem_of_getElem? (i := 68) rfl, List.mem_of_getElem? (i := 69) rfl, List.mem_of_getElem? (i := 70) rfl, rfl, rfl⟩
theorem lk_0_80 : LinkP PP "PageCompactorY" 80 m16 := ⟨List.mem_of_getElem? (i := 124) rfl, List.mem_of_getElem? (i := 125) rfl, List.mem_of_getElem? (i := 126) rfl, List.mem_of_getElem? (i := 127) rfl, rfl, rfl⟩
theorem lk_0_84 : LinkP PP "PageCompactorY" 84 m17 := ⟨List.mem_of_getElem? (i := 132) rfl, List.mem_of_getElem? (i := 133) rfl, List.mem_of_getElem? (i := 134) rfl, List.mem_of_getElem? (i := 135) rfl, rfl, rfl⟩
theorem lk_0_88 : LinkP PP "PageCompactorY" 88 m19 := ⟨List.mem_of_getElem? (i := 63) rfl, List.mem_of_getElem? (i := 64) rfl, List.mem_of_getElem? (i := 65) rfl, List.mem_of_getElem? (i := 66) rfl, rfl, rfl⟩
theorem lk_0_91 : LinkP PP "PageCompactorY" 91 m25 := ⟨List.mem_of_getElem? (i := 235) rfl, List.mem_of_getElem? (i := 236) rfl, List.mem_of_getElem? (i := 237) rfl, List.mem_of_getElem? (i := 238) rfl, rfl, rfl⟩
theorem lk_0_95 : LinkP PP "PageCompactorY" 95 m27 := ⟨List.mem_of_getElem? (i := 250) rfl, List.mem_of_getElem? (i := 251) rfl, List.mem_of_getElem? (i := 252) rfl, List.mem_of_getElem? (i := 253) rfl, rfl, rfl⟩
theorem lk_0_110 : LinkP PP "PageCompactorY" 110 m31 := ⟨List.mem_of_getElem? (i := 149) rfl, List.mem_of_getElem? (i := 150) rfl, List.mem_of_getElem? (i := 151) rfl, List.mem_of_getElem? (i := 152) rfl, rfl, rfl⟩
theorem lk_0_113 : LinkP PP "PageCompactorY" 113 m33 := ⟨List.mem_of_getElem? (i := 157) rfl, List.mem_of_getElem? (i := 158) rfl, List.mem_of_getElem? (i := 159) rfl, List.mem_of_getElem? (i := 160) rfl, rfl, rfl⟩
theorem lk_0_116 : LinkP PP "PageCompactorY" 116 m34 := ⟨List.mem_of_getElem? (i := 161) rfl, List.mem_of_getElem? (i := 162) rfl, List.mem_of_getElem? (i := 163) rfl, List.mem_of_getElem? (i := 164) rfl, rfl, rfl⟩
theorem lk_0_120 : LinkP PP "PageCompactorY" 120 m36 := ⟨List.mem_of_getElem? (i := 222) rfl, List.mem_of_getElem? (i := 223) rfl, List.mem_of_getElem? (i := 224) rfl, List.mem_of_getElem? (i := 225) rfl, rfl, rfl⟩
theorem lk_0_123 : LinkP PP "PageCompactorY" 123 m39 := ⟨List.mem_of_getElem? (i := 170) rfl, List.mem_of_getElem? (i := 171) rfl, List.mem_of_getElem? (i := 172) rfl, List.mem_of_getElem? (i := 173) rfl, rfl, rfl⟩
theorem lk_0_126 : LinkP PP "PageCompactorY" 126 m24 := ⟨List.mem_of_getElem? (i := 239) rfl, List.mem_of_getElem? (i := 240) rfl, List.mem_of_getElem? (i := 241) rfl, List.mem_of_getElem? (i := 242) rfl, rfl, rfl⟩
theorem lk_0_129 : LinkP PP "PageCompactorY" 129 m1 := ⟨List.mem_of_getElem? (i := 40) rfl, List.mem_of_getElem? (i := 41) rfl, List.mem_of_getElem? (i := 42) rfl, List.mem_of_getElem? (i := 43) rfl, rfl, rfl⟩
theorem lk_0_145 : LinkP PP "PageCompactorY" 145 m9 := ⟨List.mem_of_getElem? (i := 106) rfl, List.mem_of_getElem? (i := 107) rfl, List.mem_of_getElem? (i := 108) rfl, List.mem_of_getElem? (i := 109) rfl, rfl, rfl⟩
theorem lk_0_150 : LinkP PP "PageCompactorY" 150 m26 := ⟨List.mem_of_getElem? (i := 254) rfl, List.mem_of_getElem? (i := 255) rfl, List.mem_of_getElem? (i := 256) rfl, List.mem_of_getElem? (i := 257) rfl, rfl, rfl⟩
theorem lk_0_153 : LinkP PP "PageCompactorY" 153 m11 := ⟨List.mem_of_getElem? (i := 115) rfl, List.mem_of_getElem? (i := 116) rfl, List.mem_of_getElem? (i := 117) rfl, List.mem_of_getElem? (i := 118) rfl, rfl, rfl⟩
theorem lk_0_156 : LinkP PP "PageCompactorY" 156 m15 := ⟨List.mem_of_getElem? (i := 128) rfl, List.mem_of_getElem? (i := 129) rfl, List.mem_of_getElem? (i := 130) rfl, List.mem_of_getElem? (i := 131) rfl, rfl, rfl⟩
theorem lk_0_159 : LinkP PP "PageCompactorY" 159 m23 := ⟨List.mem_of_getElem? (i := 243) rfl, List.mem_of_getElem? (i := 244) rfl, List.mem_of_getElem? (i := 245) rfl, List.mem_of_getElem? (i := 246) rfl, rfl, rfl⟩
theorem lk_0_172 : LinkP PP "PageCompactorY" 172 m30 := ⟨List.mem_of_getElem? (i := 153) rfl, List.mem_of_getElem? (i := 154) rfl, List.mem_of_getElem? (i := 155) rfl, List.mem_of_getElem? (i := 156) rfl, rfl, rfl⟩
theorem lk_0_176 : LinkP PP "PageCompactorY" 176 m32 := ⟨List.mem_of_getElem? (i := 218) rfl, List.mem_of_getElem? (i := 219) rfl, List.mem_of_getElem? (i := 220) rfl, List.mem_of_getElem? (i := 221) rfl, rfl, rfl⟩
theorem lk_0_179 : LinkP PP "PageCompactorY" 179 m35 := ⟨List.mem_of_getElem? (i := 226) rfl, List.mem_of_getElem? (i := 227) rfl, List.mem_of_getElem? (i := 228) rfl, List.mem_of_getElem? (i := 229) rfl, rfl, rfl⟩
theorem lk_1_7 : LinkV PP "PageCompactorYL7" 7 m13 := ⟨List.mem_of_getElem? (i := 84) rfl, List.mem_of_getElem? (i := 85) rfl, List.mem_of_getElem? (i := 87) rfl, List.mem_of_getElem? (i := 86) rfl, List.mem_of_getElem? (i := 88) rfl, rfl, rfl⟩
theorem lk_1_13 : LinkV PP "PageCompactorYL7" 13 m14 := ⟨List.mem_of_getElem? (i := 79) rfl, List.mem_of_getElem? (i := 80) rfl, List.mem_of_getElem? (i := 82) rfl, List.mem_of_getElem? (i := 81) rfl, List.mem_of_getElem? (i := 83) rfl, rfl, rfl⟩
theorem lk_1_17 : LinkV PP "PageCompactorYL7" 17 m18 := ⟨List.mem_of_getElem? (i := 119) rfl, List.mem_of_getElem? (i := 120) rfl, List.mem_of_getElem? (i := 122) rfl, List.mem_of_getElem? (i := 121) rfl, List.mem_of_getElem? (i := 123) rfl, rfl, rfl⟩
theorem lk_1_21 : LinkV PP "PageCompactorYL7" 21 m20 := ⟨List.mem_of_getElem? (i := 58) rfl, List.mem_of_getElem? (i := 59) rfl, List.mem_of_getElem? (i := 61) rfl, List.mem_of_getElem? (i := 60) rfl, List.mem_of_getElem? (i := 62) rfl, rfl, rfl⟩
theorem lk_1_25 : LinkV PP "PageCompactorYL7" 25 m21 := ⟨List.mem_of_getElem? (i := 213) rfl, List.mem_of_getElem? (i := 214) rfl, List.mem_of_getElem? (i := 216) rfl, List.mem_of_getElem? (i := 215) rfl, List.mem_of_getElem? (i := 217) rfl, rfl, rfl⟩
theorem lk_1_29 : LinkV PP "PageCompactorYL7" 29 m22 := ⟨List.mem_of_getElem? (i := 203) rfl, List.mem_of_getElem? (i := 204) rfl, List.mem_of_getElem? (i := 206) rfl, List.mem_of_getElem? (i := 205) rfl, List.mem_of_getElem? (i := 207) rfl, rfl, rfl⟩
theorem lk_1_32 : LinkV PP "PageCompactorYL7" 32 m28 := ⟨List.mem_of_getElem? (i := 230) rfl, List.mem_of_getElem? (i := 231) rfl, List.mem_of_getElem? (i := 233) rfl, List.mem_of_getElem? (i := 232) rfl, List.mem_of_getElem? (i := 234) rfl, rfl, rfl⟩
theorem lk_1_36 : LinkV PP "PageCompactorYL7" 36 m29 := ⟨List.mem_of_getElem? (i := 208) rfl, List.mem_of_getElem? (i := 209) rfl, List.mem_of_getElem? (i := 211) rfl, List.mem_of_getElem? (i := 210) rfl, List.mem_of_getElem? (i := 212) rfl, rfl, rfl⟩
theorem lk_1_39 : LinkV PP "PageCompactorYL7" 39 m37 := ⟨List.mem_of_getElem? (i := 136) rfl, List.mem_of_getElem? (i := 137) rfl, List.mem_of_getElem? (i := 139) rfl, List.mem_of_getElem? (i := 138) rfl, List.mem_of_getElem? (i := 140) rfl, rfl, rfl⟩
theorem lk_1_42 : LinkI PP "PageCompactorYL7" 42 m3 := ⟨List.mem_of_getElem? (i := 3) rfl, List.mem_of_getElem? (i := 4) rfl, List.mem_of_getElem? (i := 5) rfl, rfl, rfl, rfl, rfl⟩
theorem lk_1_45 : LinkS PP "PageCompactorYL7" 45 m38 := ⟨List.mem_of_getElem? (i := 54) rfl, List.mem_of_getElem? (i := 55) rfl, List.mem_of_getElem? (i := 56) rfl, List.mem_of_getElem? (i := 57) rfl, by decide⟩
theorem lk_1_51 : LinkV PP "PageCompactorYL7" 51 m40 := ⟨List.mem_of_getElem? (i := 165) rfl, List.mem_of_getElem? (i := 166) rfl, List.mem_of_getElem? (i := 168) rfl, List.mem_of_getElem? (i := 167) rfl, List.mem_of_getElem? (i := 169) rfl, rfl, rfl⟩
theorem lk_1_55 : LinkV PP "PageCompactorYL7" 55 m41 := ⟨List.mem_of_getElem? (i := 178) rfl, List.mem_of_getElem? (i := 179) rfl, List.mem_of_getElem? (i := 181) rfl, List.mem_of_getElem? (i := 180) rfl, List.mem_of_getElem? (i := 182) rfl, rfl, rfl⟩
theorem lk_1_58 : LinkV PP "PageCompactorYL7" 58 m42 := ⟨List.mem_of_getElem? (i := 183) rfl, List.mem_of_getElem? (i := 184) rfl, List.mem_of_getElem? (i := 186) rfl, List.mem_of_getElem? (i := 185) rfl, List.mem_of_getElem? (i := 187) rfl, rfl, rfl⟩
theorem lk_1_61 : LinkV PP "PageCompactorYL7" 61 m43 := ⟨List.mem_of_getElem? (i := 188) rfl, List.mem_of_getElem? (i := 189) rfl, List.mem_of_getElem? (i := 191) rfl, List.mem_of_getElem? (i := 190) rfl, List.mem_of_getElem? (i := 192) rfl, rfl, rfl⟩
theorem lk_1_64 : LinkV PP "PageCompactorYL7" 64 m44 := ⟨List.mem_of_getElem? (i := 193) rfl, List.mem_of_getElem? (i := 194) rfl, List.mem_of_getElem? (i := 196) rfl, List.mem_of_getElem? (i := 195) rfl, List.mem_of_getElem? (i := 197) rfl, rfl, rfl⟩
theorem lk_1_67 : LinkV PP "PageCompactorYL7" 67 m45 := ⟨List.mem_of_getElem? (i := 198) rfl, List.mem_of_getElem? (i := 199) rfl, List.mem_of_getElem? (i := 201) rfl, List.mem_of_getElem? (i := 200) rfl, List.mem_of_getElem? (i := 202) rfl, rfl, rfl⟩
theorem facts1 {Z : State} {a0 : Array Value} (hw : ∀ d ∈ tables_1, d.before a0 Z = true) : Facts Z a0 ci1 := by
  refine ⟨hw _ (List.mem_of_getElem? (i := 1) rfl), hw _ (List.mem_of_getElem? (i := 2) rfl), ?_, ?_, by decide, ?_, by decide⟩
  · intro f x hx
    match f, hx with
    | 0, hx => cases hx; exact ⟨Or.inl (hw _ (List.mem_of_getElem? (i := 33) rfl)), by decide⟩
    | 1, hx => cases hx; exact ⟨Or.inl (hw _ (List.mem_of_getElem? (i := 35) rfl)), by decide⟩
    | 2, hx => cases hx; exact ⟨Or.inl (hw _ (List.mem_of_getElem? (i := 45) rfl)), by decide⟩
    | 3, hx => cases hx; exact ⟨Or.inl (hw _ (List.mem_of_getElem? (i := 47) rfl)), by decide⟩
    | 4, hx => cases hx; exact ⟨Or.inl (hw _ (List.mem_of_getElem? (i := 49) rfl)), by decide⟩
    | 5, hx => cases hx; exact ⟨Or.inl (hw _ (List.mem_of_getElem? (i := 51) rfl)), by decide⟩
    | 6, hx => cases hx; exact ⟨Or.inl (hw _ (List.mem_of_getElem? (i := 53) rfl)), by decide⟩
    | 7, hx => cases hx; exact ⟨Or.inl (hw _ (List.mem_of_getElem? (i := 142) rfl)), by decide⟩
    | 8, hx => cases hx; exact ⟨Or.inl (hw _ (List.mem_of_getElem? (i := 144) rfl)), by decide⟩
    | 9, hx => cases hx; exact ⟨Or.inl (hw _ (List.mem_of_getElem? (i := 146) rfl)), by decide⟩
    | 10, hx => cases hx; exact ⟨Or.inl (hw _ (List.mem_of_getElem? (i := 148) rfl)), by decide⟩
    | n + 11, hx => simp [cS, ci1] at hx
  · intro q x hx
    match q, hx with
    | 0, hx => cases hx; exact ⟨Or.inr (hw _ (List.mem_of_getElem? (i := 11) rfl)), by decide⟩
    | 1, hx => cases hx; exact ⟨Or.inr (hw _ (List.mem_of_getElem? (i := 14) rfl)), by decide⟩
    | 2, hx => cases hx; exact ⟨Or.inr (hw _ (List.mem_of_getElem? (i := 16) rfl)), by decide⟩
    | 3, hx => cases hx; exact ⟨Or.inr (hw _ (List.mem_of_getElem? (i := 18) rfl)), by decide⟩
    | 4, hx => cases hx; exact ⟨Or.inr (hw _ (List.mem_of_getElem? (i := 20) rfl)), by decide⟩
    | 5, hx => cases hx; exact ⟨Or.inr (hw _ (List.mem_of_getElem? (i := 22) rfl)), by decide⟩
    | 6, hx => cases hx; exact ⟨Or.inr (hw _ (List.mem_of_getElem? (i := 24) rfl)), by decide⟩
    | 7, hx => cases hx; exact ⟨Or.inr (hw _ (List.mem_of_getElem? (i := 27) rfl)), by decide⟩
    | n + 8, hx => simp [cA, ci1] at hx
  · intro f x hx
    match f, hx with
    | 0, hx => cases hx; rfl
    | 1, hx => cases hx; rfl
    | 2, hx => cases hx; rfl
    | 3, hx => cases hx; rfl
    | 4, hx => cases hx; rfl
    | 5, hx => cases hx; rfl
    | 6, hx => cases hx; rfl
    | 7, hx => cases hx; rfl
    | 8, hx => cases hx; rfl
    | 9, hx => cases hx; rfl
    | 10, hx => cases hx; rfl
    | n + 11, hx => simp [cS, ci1] at hx
def k_clampInt  (v1 : Int32) (v2 : Int32) (v3 : Int32)  : Int32 :=
  if v1 < v2 then
    v2
  else
    if v3 < v1 then
      v3
    else
      v1
def k_lowMask  (v1 : Int32)  : Int64 :=
  if 0 < v1 then
    if v1 < (64 : Int32) then
      ((1 : Int64) <<< (v1.toInt64 &&& 63)) - (1 : Int64)
    else
      (-1 : Int64)
  else
    (0 : Int64)
def k_resetAll_63   (s : S) : Option S :=
  some (sI (sL (sL (sL (sL s 2 (k_lowMask (gI s 0))) 3 (0 : Int64)) 4 (0 : Int64)) 5 (0 : Int64)) 6 (1 : Int32))
def k_resetAll_2  : Nat → Int32 → S → Option S
  | 0, _, _ => none
  | n + 1, v1, s =>
    if v1 < (64 : Int32) then
      (Jvm.AM.st (gA s 0) v1 (nar .byte (0 : Int32))).bind fun a14 =>
      (Jvm.AM.st (gA s 1) v1 (0 : Int32)).bind fun a21 =>
      (Jvm.AM.st (gA s 2) v1 (0 : Int32)).bind fun a28 =>
      (Jvm.AM.st (gA s 3) v1 (-1 : Int32)).bind fun a35 =>
      (Jvm.AM.st (gA s 4) v1 (-1 : Int32)).bind fun a42 =>
      (Jvm.AM.st (gA s 5) v1 (-1 : Int32)).bind fun a49 =>
      (Jvm.AM.st (gA s 6) v1 (-1 : Int32)).bind fun a56 =>
      k_resetAll_2 n (v1 + (1 : Int32)) (sA (sA (sA (sA (sA (sA (sA s 0 a14) 1 a21) 2 a28) 3 a35) 4 a42) 5 a49) 6 a56)
    else
      k_resetAll_63 s
def k_resetAll   (s : S) : Option S :=
  k_resetAll_2 BIG (0 : Int32) s
def k_init  (v1 : Int32) (v2 : Int32)  : Option S :=
  (k_resetAll (sI (sI (sB (sA (sA (sA (sA (sA (sA (sA s0 0 (rep 64 0)) 1 (rep 64 0)) 2 (rep 64 0)) 3 (rep 64 0)) 4 (rep 64 0)) 5 (rep 64 0)) 6 (rep 64 0)) 7 (rep 7 0)) 0 (k_clampInt v1 (8 : Int32) (64 : Int32))) 1 (k_clampInt v2 (4 : Int32) (16 : Int32)))).bind fun r94 =>
  some r94
def k_pageInRange  (v1 : Int32) (v2 : Int32) (s : S) : Int32 :=
  if v1 < 0 then
    (0 : Int32)
  else
    if v1 < (4 : Int32) then
      if v2 < 0 then
        (0 : Int32)
      else
        if v2 < (gI s 1) then
          (1 : Int32)
        else
          (0 : Int32)
    else
      (0 : Int32)
def k_slotOf  (v1 : Int32) (v2 : Int32)  : Int32 :=
  (v1 * (16 : Int32)) + v2
def k_checkTarget  (v1 : Int32) (v2 : Int32) (s : S) : Option Int32 :=
  if (k_pageInRange v1 v2 s) = 0 then
    some (-1 : Int32)
  else
    (ix (gA s 3) (k_slotOf v1 v2)).bind fun a23 =>
    if a23 < 0 then
      some (0 : Int32)
    else
      some (-2 : Int32)
def k_lowestBit_116  (v3 : Int32) (v4 : Int64)  : Int32 :=
  if (v4 &&& (1 : Int64)) = (0 : Int64) then
    v3 + (1 : Int32)
  else
    v3
def k_lowestBit_96  (v3 : Int32) (v4 : Int64)  : Int32 :=
  k_lowestBit_116 (if (v4 &&& (3 : Int64)) = (0 : Int64) then v3 + (2 : Int32) else v3) (if (v4 &&& (3 : Int64)) = (0 : Int64) then XT.ushrL v4 (2 : Int32) else v4)
def k_lowestBit_76  (v3 : Int32) (v4 : Int64)  : Int32 :=
  k_lowestBit_96 (if (v4 &&& (15 : Int64)) = (0 : Int64) then v3 + (4 : Int32) else v3) (if (v4 &&& (15 : Int64)) = (0 : Int64) then XT.ushrL v4 (4 : Int32) else v4)
def k_lowestBit_55  (v3 : Int32) (v4 : Int64)  : Int32 :=
  k_lowestBit_76 (if (v4 &&& (255 : Int64)) = (0 : Int64) then v3 + (8 : Int32) else v3) (if (v4 &&& (255 : Int64)) = (0 : Int64) then XT.ushrL v4 (8 : Int32) else v4)
def k_lowestBit_34  (v3 : Int32) (v4 : Int64)  : Int32 :=
  k_lowestBit_55 (if (v4 &&& (65535 : Int64)) = (0 : Int64) then v3 + (16 : Int32) else v3) (if (v4 &&& (65535 : Int64)) = (0 : Int64) then XT.ushrL v4 (16 : Int32) else v4)
def k_lowestBit  (v1 : Int64)  : Int32 :=
  if v1 = (0 : Int64) then
    (-1 : Int32)
  else
    k_lowestBit_34 (if (v1 &&& (4294967295 : Int64)) = (0 : Int64) then (0 : Int32) + (32 : Int32) else (0 : Int32)) (if (v1 &&& (4294967295 : Int64)) = (0 : Int64) then XT.ushrL v1 (32 : Int32) else v1)
def k_frameInRange  (v1 : Int32) (s : S) : Int32 :=
  if v1 < 0 then
    (0 : Int32)
  else
    if v1 < (gI s 0) then
      (1 : Int32)
    else
      (0 : Int32)
def k_bitOf_10    : Int64 :=
  (0 : Int64)
def k_bitOf  (v1 : Int32)  : Int64 :=
  if v1 < 0 then
    k_bitOf_10
  else
    if (63 : Int32) < v1 then
      k_bitOf_10
    else
      (1 : Int64) <<< (v1.toInt64 &&& 63)
def k_enterState_134  (v1 : Int32) (v2 : Int32) (s : S) : Option S :=
  (Jvm.AM.st (gA s 0) v1 (nar .byte v2.toInt8.toInt32)).bind fun a141 =>
  some (sI (sA s 0 a141) 6 (1 : Int32))
def k_enterState  (v1 : Int32) (v2 : Int32) (s : S) : Option S :=
  if (k_frameInRange v1 s) = 0 then
    some s
  else
    if v2 = 0 then
      k_enterState_134 v1 v2 (sL (sL (sL (sL (sL s 2 ((gL s 2) &&& ((k_bitOf v1) ^^^ (-1 : Int64)))) 3 ((gL s 3) &&& ((k_bitOf v1) ^^^ (-1 : Int64)))) 4 ((gL s 4) &&& ((k_bitOf v1) ^^^ (-1 : Int64)))) 5 ((gL s 5) &&& ((k_bitOf v1) ^^^ (-1 : Int64)))) 2 (((gL s 2) &&& ((k_bitOf v1) ^^^ (-1 : Int64))) ||| (k_bitOf v1)))
    else
      if v2 = (1 : Int32) then
        k_enterState_134 v1 v2 (sL (sL (sL (sL (sL s 2 ((gL s 2) &&& ((k_bitOf v1) ^^^ (-1 : Int64)))) 3 ((gL s 3) &&& ((k_bitOf v1) ^^^ (-1 : Int64)))) 4 ((gL s 4) &&& ((k_bitOf v1) ^^^ (-1 : Int64)))) 5 ((gL s 5) &&& ((k_bitOf v1) ^^^ (-1 : Int64)))) 3 (((gL s 3) &&& ((k_bitOf v1) ^^^ (-1 : Int64))) ||| (k_bitOf v1)))
      else
        if v2 = (2 : Int32) then
          k_enterState_134 v1 v2 (sL (sL (sL (sL (sL s 2 ((gL s 2) &&& ((k_bitOf v1) ^^^ (-1 : Int64)))) 3 ((gL s 3) &&& ((k_bitOf v1) ^^^ (-1 : Int64)))) 4 ((gL s 4) &&& ((k_bitOf v1) ^^^ (-1 : Int64)))) 5 ((gL s 5) &&& ((k_bitOf v1) ^^^ (-1 : Int64)))) 4 (((gL s 4) &&& ((k_bitOf v1) ^^^ (-1 : Int64))) ||| (k_bitOf v1)))
        else
          k_enterState_134 v1 v2 (sL (sL (sL (sL (sL s 2 ((gL s 2) &&& ((k_bitOf v1) ^^^ (-1 : Int64)))) 3 ((gL s 3) &&& ((k_bitOf v1) ^^^ (-1 : Int64)))) 4 ((gL s 4) &&& ((k_bitOf v1) ^^^ (-1 : Int64)))) 5 ((gL s 5) &&& ((k_bitOf v1) ^^^ (-1 : Int64)))) 5 (((gL s 5) &&& ((k_bitOf v1) ^^^ (-1 : Int64))) ||| (k_bitOf v1)))
def k_rmapLink_38  (v1 : Int32) (v2 : Int32) (s : S) : Option S :=
  (Jvm.AM.st (gA s 4) v2 v1).bind fun a44 =>
  (Jvm.AM.st (gA s 3) v1 v2).bind fun a51 =>
  some (sA (sA s 4 a44) 3 a51)
def k_rmapLink  (v1 : Int32) (v2 : Int32) (s : S) : Option S :=
  (ix (gA s 4) v2).bind fun a5 =>
  (Jvm.AM.st (gA s 6) v1 (-1 : Int32)).bind fun a13 =>
  (Jvm.AM.st (gA s 5) v1 a5).bind fun a20 =>
  if a5 < 0 then
    k_rmapLink_38 v1 v2 (sA (sA s 6 a13) 5 a20)
  else
    if a5 < (64 : Int32) then
      (Jvm.AM.st a13 a5 v1).bind fun a37 =>
      k_rmapLink_38 v1 v2 (sA (sA (sA s 6 a13) 5 a20) 6 a37)
    else
      k_rmapLink_38 v1 v2 (sA (sA s 6 a13) 5 a20)
def k_attachPage  (v1 : Int32) (v2 : Int32) (s : S) : Option S :=
  if v1 < 0 then
    some s
  else
    if v1 < (64 : Int32) then
      if (k_frameInRange v2 s) = 0 then
        some s
      else
        (k_rmapLink v1 v2 s).bind fun r22 =>
        (ix (gA r22 2) v2).bind fun a35 =>
        (Jvm.AM.st (gA r22 2) v2 (a35 + (1 : Int32))).bind fun a38 =>
        some (sA r22 2 a38)
    else
      some s
def k_mapNew  (v1 : Int32) (v2 : Int32) (v3 : Int32) (s : S) : Option (Int32 × S) :=
  (k_checkTarget v1 v2 s).bind fun r3 =>
  if r3 = 0 then
    if (gL s 2) = (0 : Int64) then
      some ((-4 : Int32), s)
    else
      if (k_frameInRange (k_lowestBit (gL s 2)) s) = 0 then
        some ((-4 : Int32), s)
      else
        (k_enterState (k_lowestBit (gL s 2)) (1 : Int32) s).bind fun r62 =>
        (Jvm.AM.st (gA r62 1) (k_lowestBit (gL s 2)) v3).bind fun a72 =>
        (Jvm.AM.st (gA r62 2) (k_lowestBit (gL s 2)) (0 : Int32)).bind fun a80 =>
        (k_attachPage (k_slotOf v1 v2) (k_lowestBit (gL s 2)) (sA (sA r62 1 a72) 2 a80)).bind fun r86 =>
        some ((k_lowestBit (gL s 2)), r86)
  else
    some (r3, s)
def k_share  (v1 : Int32) (v2 : Int32) (v3 : Int32) (v4 : Int32) (s : S) : Option (Int32 × S) :=
  if (k_pageInRange v1 v2 s) = 0 then
    some ((-1 : Int32), s)
  else
    if (k_pageInRange v3 v4 s) = 0 then
      some ((-1 : Int32), s)
    else
      (ix (gA s 3) (k_slotOf v1 v2)).bind fun a37 =>
      if a37 < 0 then
        (ix (gA s 3) (k_slotOf v3 v4)).bind fun a59 =>
        if (k_frameInRange a59 s) = 0 then
          some ((-3 : Int32), s)
        else
          (k_attachPage (k_slotOf v1 v2) a59 s).bind fun r79 =>
          some (a59, r79)
      else
        some ((-2 : Int32), s)
def k_rmapUnlink_95  (v1 : Int32) (v2 : Int32) (s : S) : Option (Int32 × S) :=
  (Jvm.AM.st (gA s 6) v1 (-1 : Int32)).bind fun a101 =>
  (Jvm.AM.st (gA s 5) v1 (-1 : Int32)).bind fun a108 =>
  (Jvm.AM.st (gA s 3) v1 (-1 : Int32)).bind fun a115 =>
  some (v2, sA (sA (sA s 6 a101) 5 a108) 3 a115)
def k_rmapUnlink_75  (v1 : Int32) (v2 : Int32) (v3 : Int32) (v4 : Int32) (s : S) : Option (Int32 × S) :=
  if v4 < 0 then
    k_rmapUnlink_95 v1 v2 s
  else
    if v4 < (64 : Int32) then
      (Jvm.AM.st (gA s 6) v4 v3).bind fun a94 =>
      k_rmapUnlink_95 v1 v2 (sA s 6 a94)
    else
      k_rmapUnlink_95 v1 v2 s
def k_rmapUnlink_67  (v1 : Int32) (v2 : Int32) (v3 : Int32) (v4 : Int32) (s : S) : Option (Int32 × S) :=
  (Jvm.AM.st (gA s 4) v2 v4).bind fun a74 =>
  k_rmapUnlink_75 v1 v2 v3 v4 (sA s 4 a74)
def k_rmapUnlink  (v1 : Int32) (s : S) : Option (Int32 × S) :=
  if v1 < 0 then
    some ((-1 : Int32), s)
  else
    if v1 < (64 : Int32) then
      (ix (gA s 3) v1).bind fun a17 =>
      if a17 < 0 then
        some ((-1 : Int32), s)
      else
        if a17 < (64 : Int32) then
          (ix (gA s 6) v1).bind fun a36 =>
          (ix (gA s 5) v1).bind fun a43 =>
          if a36 < 0 then
            k_rmapUnlink_67 v1 a17 a36 a43 s
          else
            if a36 < (64 : Int32) then
              (Jvm.AM.st (gA s 5) a36 a43).bind fun a63 =>
              k_rmapUnlink_75 v1 a17 a36 a43 (sA s 5 a63)
            else
              k_rmapUnlink_67 v1 a17 a36 a43 s
        else
          some ((-1 : Int32), s)
    else
      some ((-1 : Int32), s)
def k_detachPage  (v1 : Int32) (s : S) : Option (Int32 × S) :=
  (k_rmapUnlink v1 s).bind fun r2 =>
  if (k_frameInRange r2.1 r2.2) = 0 then
    some ((-1 : Int32), r2.2)
  else
    (ix (gA r2.2 2) r2.1).bind fun a26 =>
    (Jvm.AM.st (gA r2.2 2) r2.1 (a26 - (1 : Int32))).bind fun a29 =>
    some (r2.1, sA r2.2 2 a29)
def k_freeFrame  (v1 : Int32) (s : S) : Option S :=
  if (k_frameInRange v1 s) = 0 then
    some s
  else
    (Jvm.AM.st (gA s 1) v1 (0 : Int32)).bind fun a15 =>
    (Jvm.AM.st (gA s 2) v1 (0 : Int32)).bind fun a22 =>
    (Jvm.AM.st (gA s 4) v1 (-1 : Int32)).bind fun a29 =>
    (k_enterState v1 (0 : Int32) (sA (sA (sA s 1 a15) 2 a22) 4 a29)).bind fun r33 =>
    some r33
def k_unmap  (v1 : Int32) (v2 : Int32) (s : S) : Option (Int32 × S) :=
  if (k_pageInRange v1 v2 s) = 0 then
    some ((-1 : Int32), s)
  else
    (ix (gA s 3) (k_slotOf v1 v2)).bind fun a23 =>
    if a23 < 0 then
      some ((-3 : Int32), s)
    else
      (k_detachPage (k_slotOf v1 v2) s).bind fun r32 =>
      if (k_frameInRange r32.1 r32.2) = 0 then
        some ((-3 : Int32), r32.2)
      else
        (ix (gA r32.2 2) r32.1).bind fun a55 =>
        if 0 < a55 then
          some (r32.1, r32.2)
        else
          (k_freeFrame r32.1 r32.2).bind fun r62 =>
          some (r32.1, r62)
def k_mappedFrame  (v1 : Int32) (v2 : Int32) (s : S) : Option Int32 :=
  if (k_pageInRange v1 v2 s) = 0 then
    some (-1 : Int32)
  else
    (ix (gA s 3) (k_slotOf v1 v2)).bind fun a23 =>
    if (k_frameInRange a23 s) = 0 then
      some (-1 : Int32)
    else
      some a23
def k_write  (v1 : Int32) (v2 : Int32) (v3 : Int32) (s : S) : Option (Int32 × S) :=
  (k_mappedFrame v1 v2 s).bind fun r3 =>
  if r3 < 0 then
    some ((0 : Int32), s)
  else
    (Jvm.AM.st (gA s 1) r3 v3).bind fun a22 =>
    some ((1 : Int32), sA s 1 a22)
def k_pin  (v1 : Int32) (s : S) : Option (Int32 × S) :=
  if (k_frameInRange v1 s) = 0 then
    some ((0 : Int32), s)
  else
    (ix (gA s 0) v1).bind fun a15 =>
    if a15 = (1 : Int32) then
      (k_enterState v1 (2 : Int32) s).bind fun r25 =>
      some ((1 : Int32), r25)
    else
      some ((0 : Int32), s)
def k_unpin  (v1 : Int32) (s : S) : Option (Int32 × S) :=
  if (k_frameInRange v1 s) = 0 then
    some ((0 : Int32), s)
  else
    (ix (gA s 0) v1).bind fun a15 =>
    if a15 = (2 : Int32) then
      (k_enterState v1 (1 : Int32) s).bind fun r25 =>
      some ((1 : Int32), r25)
    else
      some ((0 : Int32), s)
def k_alignMask  (v1 : Int32)  : Int64 :=
  if v1 = 0 then
    (-1 : Int64)
  else
    if v1 = (1 : Int32) then
      (6148914691236517205 : Int64)
    else
      if v1 = (2 : Int32) then
        (1229782938247303441 : Int64)
      else
        if v1 = (3 : Int32) then
          (72340172838076673 : Int64)
        else
          if v1 = (4 : Int32) then
            (281479271743489 : Int64)
          else
            if v1 = (5 : Int32) then
              (4294967297 : Int64)
            else
              if v1 = (6 : Int32) then
                (1 : Int64)
              else
                (0 : Int64)
def k_refreshRuns_65   (s : S) : Option S :=
  some (sI s 6 (0 : Int32))
def k_refreshRuns_22  : Nat → Int64 → Int32 → S → Option S
  | 0, _, _, _ => none
  | n + 1, v1, v3, s =>
    if (6 : Int32) < v3 then
      k_refreshRuns_65 s
    else
      (Jvm.AM.st (gB s 7) v3 ((v1 &&& (XT.ushrL v1 ((1 : Int32) <<< ((v3 - (1 : Int32)) &&& 31)))) &&& (k_alignMask v3))).bind fun a58 =>
      k_refreshRuns_22 n ((v1 &&& (XT.ushrL v1 ((1 : Int32) <<< ((v3 - (1 : Int32)) &&& 31)))) &&& (k_alignMask v3)) (v3 + (1 : Int32)) (sB s 7 a58)
def k_refreshRuns   (s : S) : Option S :=
  if (gI s 6) = 0 then
    some s
  else
    (Jvm.AM.st (gB s 7) (0 : Int32) (gL s 2)).bind fun a19 =>
    k_refreshRuns_22 BIG (gL s 2) (1 : Int32) (sB s 7 a19)
def k_freeRunsOfOrder_10   (s : S) : Option (Int64 × S) :=
  some ((0 : Int64), s)
def k_freeRunsOfOrder  (v1 : Int32) (s : S) : Option (Int64 × S) :=
  if v1 < 0 then
    k_freeRunsOfOrder_10 s
  else
    if (6 : Int32) < v1 then
      k_freeRunsOfOrder_10 s
    else
      (k_refreshRuns s).bind fun r13 =>
      (ix (gB r13 7) v1).bind fun a21 =>
      some (a21, r13)
def k_reserveFrame  (v1 : Int32) (s : S) : Option S :=
  if (k_frameInRange v1 s) = 0 then
    some s
  else
    (Jvm.AM.st (gA s 1) v1 (0 : Int32)).bind fun a15 =>
    (Jvm.AM.st (gA s 2) v1 (0 : Int32)).bind fun a22 =>
    (Jvm.AM.st (gA s 4) v1 (-1 : Int32)).bind fun a29 =>
    (k_enterState v1 (3 : Int32) (sA (sA (sA s 1 a15) 2 a22) 4 a29)).bind fun r33 =>
    some r33
def k_reserveRun_7  : Nat → Int32 → Int32 → Int32 → S → Option S
  | 0, _, _, _, _ => none
  | n + 1, v1, v3, v4, s =>
    if v4 < v3 then
      if v4 < (64 : Int32) then
        (k_reserveFrame (v1 + v4) s).bind fun r25 =>
        k_reserveRun_7 n v1 v3 (v4 + (1 : Int32)) r25
      else
        some s
    else
      some s
def k_reserveRun  (v1 : Int32) (v2 : Int32) (s : S) : Option S :=
  k_reserveRun_7 BIG v1 ((1 : Int32) <<< (v2 &&& 31)) (0 : Int32) s
def k_allocBlock  (v1 : Int32) (s : S) : Option (Int32 × S) :=
  if v1 < 0 then
    some ((-1 : Int32), s)
  else
    if (6 : Int32) < v1 then
      some ((-1 : Int32), s)
    else
      (k_freeRunsOfOrder v1 s).bind fun r14 =>
      if r14.1 = (0 : Int64) then
        some ((-4 : Int32), r14.2)
      else
        if (k_frameInRange (k_lowestBit r14.1) r14.2) = 0 then
          some ((-4 : Int32), r14.2)
        else
          (k_reserveRun (k_lowestBit r14.1) v1 r14.2).bind fun r50 =>
          some ((k_lowestBit r14.1), r50)
def k_release  (v1 : Int32) (s : S) : Option (Int32 × S) :=
  if (k_frameInRange v1 s) = 0 then
    some ((0 : Int32), s)
  else
    (ix (gA s 0) v1).bind fun a15 =>
    if a15 = (3 : Int32) then
      (k_freeFrame v1 s).bind fun r24 =>
      some ((1 : Int32), r24)
    else
      some ((0 : Int32), s)
def k_rangeMask  (v1 : Int32) (v2 : Int32)  : Int64 :=
  if v1 < v2 then
    (k_lowMask v2) &&& ((k_lowMask v1) ^^^ (-1 : Int64))
  else
    (0 : Int64)
def k_advanceMigrateScanner   (s : S) : S :=
  if (gI s 9) < (gI s 10) then
    if ((gL s 3) &&& (k_rangeMask (gI s 9) (gI s 10))) = (0 : Int64) then
      sI s 9 (gI s 10)
    else
      sI s 9 (k_lowestBit ((gL s 3) &&& (k_rangeMask (gI s 9) (gI s 10))))
  else
    s
def k_highestBit_109  (v3 : Int32) (v4 : Int64)  : Int32 :=
  if (XT.ushrL v4 (1 : Int32)) = (0 : Int64) then
    v3
  else
    v3 + (1 : Int32)
def k_highestBit_91  (v3 : Int32) (v4 : Int64)  : Int32 :=
  k_highestBit_109 (if (XT.ushrL v4 (2 : Int32)) = (0 : Int64) then v3 else v3 + (2 : Int32)) (if (XT.ushrL v4 (2 : Int32)) = (0 : Int64) then v4 else XT.ushrL v4 (2 : Int32))
def k_highestBit_73  (v3 : Int32) (v4 : Int64)  : Int32 :=
  k_highestBit_91 (if (XT.ushrL v4 (4 : Int32)) = (0 : Int64) then v3 else v3 + (4 : Int32)) (if (XT.ushrL v4 (4 : Int32)) = (0 : Int64) then v4 else XT.ushrL v4 (4 : Int32))
def k_highestBit_53  (v3 : Int32) (v4 : Int64)  : Int32 :=
  k_highestBit_73 (if (XT.ushrL v4 (8 : Int32)) = (0 : Int64) then v3 else v3 + (8 : Int32)) (if (XT.ushrL v4 (8 : Int32)) = (0 : Int64) then v4 else XT.ushrL v4 (8 : Int32))
def k_highestBit_33  (v3 : Int32) (v4 : Int64)  : Int32 :=
  k_highestBit_53 (if (XT.ushrL v4 (16 : Int32)) = (0 : Int64) then v3 else v3 + (16 : Int32)) (if (XT.ushrL v4 (16 : Int32)) = (0 : Int64) then v4 else XT.ushrL v4 (16 : Int32))
def k_highestBit  (v1 : Int64)  : Int32 :=
  if v1 = (0 : Int64) then
    (-1 : Int32)
  else
    k_highestBit_33 (if (XT.ushrL v1 (32 : Int32)) = (0 : Int64) then (0 : Int32) else (0 : Int32) + (32 : Int32)) (if (XT.ushrL v1 (32 : Int32)) = (0 : Int64) then v1 else XT.ushrL v1 (32 : Int32))
def k_retreatFreeScanner   (s : S) : S :=
  if (gI s 9) < (gI s 10) then
    if ((gL s 2) &&& (k_rangeMask ((gI s 9) + (1 : Int32)) ((gI s 10) + (1 : Int32)))) = (0 : Int64) then
      sI s 10 (gI s 9)
    else
      sI s 10 (k_highestBit ((gL s 2) &&& (k_rangeMask ((gI s 9) + (1 : Int32)) ((gI s 10) + (1 : Int32)))))
  else
    s
def k_scannersDone   (s : S) : Int32 :=
  if (gI s 9) < (gI s 10) then
    if (gI s 8) = (gI s 7) then
      (1 : Int32)
    else
      (0 : Int32)
  else
    (1 : Int32)
def k_rmapTransfer_47  (v1 : Int32) (v2 : Int32) (s : S) : Option S :=
  (ix (gA s 4) v1).bind fun a57 =>
  (Jvm.AM.st (gA s 4) v2 a57).bind fun a58 =>
  (Jvm.AM.st a58 v1 (-1 : Int32)).bind fun a65 =>
  some (sA (sA s 4 a58) 4 a65)
def k_rmapTransfer_10  : Nat → Int32 → Int32 → Int32 → Int32 → S → Option S
  | 0, _, _, _, _, _ => none
  | n + 1, v1, v2, v3, v4, s =>
    if v4 < (64 : Int32) then
      if v3 < 0 then
        k_rmapTransfer_47 v1 v2 s
      else
        if v3 < (64 : Int32) then
          (Jvm.AM.st (gA s 3) v3 v2).bind fun a33 =>
          (ix (gA s 5) v3).bind fun a39 =>
          k_rmapTransfer_10 n v1 v2 a39 (v4 + (1 : Int32)) (sA s 3 a33)
        else
          k_rmapTransfer_47 v1 v2 s
    else
      k_rmapTransfer_47 v1 v2 s
def k_rmapTransfer  (v1 : Int32) (v2 : Int32) (s : S) : Option S :=
  (ix (gA s 4) v1).bind fun a5 =>
  k_rmapTransfer_10 BIG v1 v2 a5 (0 : Int32) s
def k_migrateFrame  (v1 : Int32) (v2 : Int32) (s : S) : Option S :=
  if (k_frameInRange v1 s) = 0 then
    some s
  else
    if (k_frameInRange v2 s) = 0 then
      some s
    else
      (ix (gA s 0) v1).bind fun a22 =>
      if a22 = (1 : Int32) then
        (ix (gA s 0) v2).bind fun a32 =>
        if a32 = 0 then
          (ix (gA s 1) v1).bind fun a42 =>
          (ix (gA s 2) v1).bind fun a49 =>
          (k_enterState v2 (1 : Int32) s).bind fun r55 =>
          (Jvm.AM.st (gA r55 1) v2 a42).bind fun a64 =>
          (Jvm.AM.st (gA r55 2) v2 a49).bind fun a72 =>
          (k_rmapTransfer v1 v2 (sA (sA r55 1 a64) 2 a72)).bind fun r76 =>
          (k_freeFrame v1 r76).bind fun r81 =>
          some r81
        else
          some s
      else
        some s
def k_compact_34  : Nat → Int32 → S → Option (Int32 × S)
  | 0, _, _ => none
  | n + 1, v2, s =>
    if (65 : Int32) < v2 then
      some (gI s 8, s)
    else
      if (k_scannersDone (k_retreatFreeScanner (k_advanceMigrateScanner s))) = 0 then
        (k_migrateFrame (gI (k_retreatFreeScanner (k_advanceMigrateScanner s)) 9) (gI (k_retreatFreeScanner (k_advanceMigrateScanner s)) 10) (k_retreatFreeScanner (k_advanceMigrateScanner s))).bind fun r67 =>
        k_compact_34 n (v2 + (1 : Int32)) (sI (sI (sI r67 8 ((gI r67 8) + (1 : Int32))) 9 ((gI r67 9) + (1 : Int32))) 10 ((gI r67 10) - (1 : Int32)))
      else
        some (gI (k_retreatFreeScanner (k_advanceMigrateScanner s)) 8, (k_retreatFreeScanner (k_advanceMigrateScanner s)))
def k_compact  (v1 : Int32) (s : S) : Option (Int32 × S) :=
  k_compact_34 BIG (0 : Int32) (sI (sI (sI (sI s 7 (k_clampInt v1 (0 : Int32) (64 : Int32))) 8 (0 : Int32)) 9 (0 : Int32)) 10 ((gI s 0) - (1 : Int32)))
def k_bitCount_34  (v3 : Int64)  : Int32 :=
  (XT.ushrL (v3 * (72340172838076673 : Int64)) (56 : Int32)).toInt32
def k_bitCount  (v1 : Int64)  : Int32 :=
  k_bitCount_34 (((((v1 - ((XT.ushrL v1 (1 : Int32)) &&& (6148914691236517205 : Int64))) &&& (3689348814741910323 : Int64)) + ((XT.ushrL (v1 - ((XT.ushrL v1 (1 : Int32)) &&& (6148914691236517205 : Int64))) (2 : Int32)) &&& (3689348814741910323 : Int64))) + (XT.ushrL (((v1 - ((XT.ushrL v1 (1 : Int32)) &&& (6148914691236517205 : Int64))) &&& (3689348814741910323 : Int64)) + ((XT.ushrL (v1 - ((XT.ushrL v1 (1 : Int32)) &&& (6148914691236517205 : Int64))) (2 : Int32)) &&& (3689348814741910323 : Int64))) (4 : Int32))) &&& (1085102592571150095 : Int64))
def k_freeCount   (s : S) : Int32 :=
  (k_bitCount (gL s 2))
def k_frameOf  (v1 : Int32) (v2 : Int32) (s : S) : Option Int32 :=
  (k_mappedFrame v1 v2 s).bind fun r3 =>
  if r3 < 0 then
    some (-1 : Int32)
  else
    some r3
def k_read  (v1 : Int32) (v2 : Int32) (s : S) : Option Int32 :=
  (k_mappedFrame v1 v2 s).bind fun r3 =>
  if r3 < 0 then
    some (0 : Int32)
  else
    (ix (gA s 1) r3).bind fun a18 =>
    some a18
def k_mapCount  (v1 : Int32) (s : S) : Option Int32 :=
  if (k_frameInRange v1 s) = 0 then
    some (0 : Int32)
  else
    (ix (gA s 2) v1).bind fun a15 =>
    some a15
def k_frameState  (v1 : Int32) (s : S) : Option Int32 :=
  if (k_frameInRange v1 s) = 0 then
    some (-1 : Int32)
  else
    (ix (gA s 0) v1).bind fun a15 =>
    some a15
def k_frameValue  (v1 : Int32) (s : S) : Option Int32 :=
  if (k_frameInRange v1 s) = 0 then
    some (0 : Int32)
  else
    (ix (gA s 0) v1).bind fun a15 =>
    if a15 = 0 then
      some (0 : Int32)
    else
      if a15 = (3 : Int32) then
        some (0 : Int32)
      else
        (ix (gA s 1) v1).bind fun a33 =>
        some a33
def h_step  (v1 : Int32) (v2 : Int32) (v3 : Int32) (v4 : Int32) (t0 : S) : Option S :=
  if v1 = 0 then
    (k_mapNew ((v2 &&& (7 : Int32)) % (5 : Int32)) ((v3 &&& (7 : Int32)) % (5 : Int32)) v4 t0).bind fun r36 =>
    some r36.2
  else
    if v1 = (1 : Int32) then
      (k_share ((v2 &&& (7 : Int32)) % (5 : Int32)) ((v3 &&& (7 : Int32)) % (5 : Int32)) (v4 &&& (3 : Int32)) ((v4 >>> ((2 : Int32) &&& 31)) &&& (3 : Int32)) t0).bind fun r63 =>
      some r63.2
    else
      if v1 = (2 : Int32) then
        (k_unmap ((v2 &&& (7 : Int32)) % (5 : Int32)) ((v3 &&& (7 : Int32)) % (5 : Int32)) t0).bind fun r80 =>
        some r80.2
      else
        if v1 = (3 : Int32) then
          (k_write ((v2 &&& (7 : Int32)) % (5 : Int32)) ((v3 &&& (7 : Int32)) % (5 : Int32)) v4 t0).bind fun r99 =>
          some r99.2
        else
          if v1 = (4 : Int32) then
            (k_pin ((v2 &&& (15 : Int32)) % (9 : Int32)) t0).bind fun r114 =>
            some r114.2
          else
            if v1 = (5 : Int32) then
              (k_unpin ((v2 &&& (15 : Int32)) % (9 : Int32)) t0).bind fun r129 =>
              some r129.2
            else
              if v1 = (6 : Int32) then
                (k_allocBlock (v2 &&& (3 : Int32)) t0).bind fun r146 =>
                some r146.2
              else
                if v1 = (7 : Int32) then
                  (k_release ((v2 &&& (15 : Int32)) % (9 : Int32)) t0).bind fun r162 =>
                  some r162.2
                else
                  (k_compact ((v2 &&& (7 : Int32)) - (1 : Int32)) t0).bind fun r176 =>
                  some r176.2
def law_528  : Nat → Int32 → List Int32 → S → S → Option (Int32 × S × S)
  | 0, _, _, _, _ => none
  | n + 1, v5, q, t0, t1 =>
    if v5 < (16 : Int32) then
      (k_frameOf (v5 >>> ((2 : Int32) &&& 31)) (v5 &&& (3 : Int32)) t0).bind fun r544 =>
      (k_frameOf (v5 >>> ((2 : Int32) &&& 31)) (v5 &&& (3 : Int32)) t1).bind fun r556 =>
      if r544 = r556 then
        law_528 n (v5 + (1 : Int32)) q t0 t1
      else
        some ((0 : Int32), t0, t1)
    else
      some ((1 : Int32), t0, t1)
def law_525   (q : List Int32) (t0 : S) (t1 : S) : Option (Int32 × S × S) :=
  law_528 BIG (0 : Int32) q t0 t1
def law_463  : Nat → Int32 → List Int32 → S → S → Option (Int32 × S × S)
  | 0, _, _, _, _ => none
  | n + 1, v5, q, t0, t1 =>
    if v5 < (8 : Int32) then
      (k_frameState v5 t0).bind fun r473 =>
      (k_frameState v5 t1).bind fun r479 =>
      if r473 = r479 then
        (k_frameValue v5 t0).bind fun r488 =>
        (k_frameValue v5 t1).bind fun r494 =>
        if r488 = r494 then
          (k_mapCount v5 t0).bind fun r505 =>
          (k_mapCount v5 t1).bind fun r511 =>
          if r505 = r511 then
            law_463 n (v5 + (1 : Int32)) q t0 t1
          else
            some ((0 : Int32), t0, t1)
        else
          some ((0 : Int32), t0, t1)
      else
        some ((0 : Int32), t0, t1)
    else
      law_525 q t0 t1
def law_452  (v3 : Int32) (v4 : Int32) (q : List Int32) (t0 : S) (t1 : S) : Option (Int32 × S × S) :=
  if v4 = v3 then
    law_463 BIG (0 : Int32) q t0 t1
  else
    some ((0 : Int32), t0, t1)
def law_412  : Nat → Int32 → Int32 → Int32 → List Int32 → S → S → Option (Int32 × S × S)
  | 0, _, _, _, _, _, _ => none
  | n + 1, v3, v4, v5, q, t0, t1 =>
    if v5 < (64 : Int32) then
      (k_compact (1 : Int32) t1).bind fun r421 =>
      if r421.1 < 0 then
        some ((0 : Int32), t0, r421.2)
      else
        if (1 : Int32) < r421.1 then
          some ((0 : Int32), t0, r421.2)
        else
          law_412 n v3 (v4 + r421.1) (v5 + (1 : Int32)) q t0 r421.2
    else
      law_452 v3 v4 q t0 t1
def law_406  (v3 : Int32) (q : List Int32) (t0 : S) (t1 : S) : Option (Int32 × S × S) :=
  law_412 BIG v3 (0 : Int32) (0 : Int32) q t0 t1
def law_372 (k300 : Int32 → Int32 → List Int32 → S → S → Option (Int32 × S × S)) (v3 : Int32) (v4 : Int32) (v5 : Int32) (p0 : Int32) (p1 : Int32) (q : List Int32) (t0 : S) (t1 : S) : Option (Int32 × S × S) :=
  if p1 = p0 then
    if v5 = (2 : Int32) then
      (k_frameValue v4 t0).bind fun r386 =>
      (k_frameValue v4 t1).bind fun r392 =>
      if r386 = r392 then
        k300 v3 (v4 + (1 : Int32)) q t0 t1
      else
        some ((0 : Int32), t0, t1)
    else
      k300 v3 (v4 + (1 : Int32)) q t0 t1
  else
    some ((0 : Int32), t0, t1)
def law_361 (k300 : Int32 → Int32 → List Int32 → S → S → Option (Int32 × S × S)) (v3 : Int32) (v4 : Int32) (v5 : Int32) (v6 : Int32) (p0 : Int32) (q : List Int32) (t0 : S) (t1 : S) : Option (Int32 × S × S) :=
  law_372 k300 v3 v4 v5 (if v6 = (3 : Int32) then (1 : Int32) else (0 : Int32)) p0 q t0 t1
def law_345 (k300 : Int32 → Int32 → List Int32 → S → S → Option (Int32 × S × S)) (v3 : Int32) (v4 : Int32) (v5 : Int32) (v6 : Int32) (p0 : Int32) (p1 : Int32) (q : List Int32) (t0 : S) (t1 : S) : Option (Int32 × S × S) :=
  if p1 = p0 then
    law_361 k300 v3 v4 v5 v6 (if v5 = (3 : Int32) then (1 : Int32) else (0 : Int32)) q t0 t1
  else
    some ((0 : Int32), t0, t1)
def law_334 (k300 : Int32 → Int32 → List Int32 → S → S → Option (Int32 × S × S)) (v3 : Int32) (v4 : Int32) (v5 : Int32) (v6 : Int32) (p0 : Int32) (q : List Int32) (t0 : S) (t1 : S) : Option (Int32 × S × S) :=
  law_345 k300 v3 v4 v5 v6 (if v6 = (2 : Int32) then (1 : Int32) else (0 : Int32)) p0 q t0 t1
def law_300  : Nat → Int32 → Int32 → List Int32 → S → S → Option (Int32 × S × S)
  | 0, _, _, _, _, _ => none
  | n + 1, v3, v4, q, t0, t1 =>
    if v4 < (8 : Int32) then
      (k_frameState v4 t0).bind fun r310 =>
      (k_frameState v4 t1).bind fun r318 =>
      law_334 (fun v3 v4 q t0 t1 => law_300 n v3 v4 q t0 t1) v3 v4 r310 r318 (if r310 = (2 : Int32) then (1 : Int32) else (0 : Int32)) q t0 t1
    else
      law_406 v3 q t0 t1
def law_297  (v3 : Int32) (q : List Int32) (t0 : S) (t1 : S) : Option (Int32 × S × S) :=
  law_300 BIG v3 (0 : Int32) q t0 t1
def law_240 (k114 : Int32 → Int32 → List Int32 → S → S → Option (Int32 × S × S)) (v3 : Int32) (v4 : Int32) (v5 : Int32) (v6 : Int32) (v9 : Int32) (v11 : Int32) (p0 : Int32) (p1 : Int32) (q : List Int32) (t0 : S) (t1 : S) : Option (Int32 × S × S) :=
  if p1 = p0 then
    (k_read v5 v6 t0).bind fun r250 =>
    (k_read v5 v6 t1).bind fun r258 =>
    if r250 = r258 then
      (k_mapCount v9 t0).bind fun r269 =>
      (k_mapCount v11 t1).bind fun r277 =>
      if r269 = r277 then
        k114 v3 (v4 + (1 : Int32)) q t0 t1
      else
        some ((0 : Int32), t0, t1)
    else
      some ((0 : Int32), t0, t1)
  else
    some ((0 : Int32), t0, t1)
def law_230 (k114 : Int32 → Int32 → List Int32 → S → S → Option (Int32 × S × S)) (v3 : Int32) (v4 : Int32) (v5 : Int32) (v6 : Int32) (v9 : Int32) (v11 : Int32) (p0 : Int32) (q : List Int32) (t0 : S) (t1 : S) : Option (Int32 × S × S) :=
  law_240 k114 v3 v4 v5 v6 v9 v11 (if v11 < 0 then (1 : Int32) else (0 : Int32)) p0 q t0 t1
def law_217 (k114 : Int32 → Int32 → List Int32 → S → S → Option (Int32 × S × S)) (v3 : Int32) (v4 : Int32) (v5 : Int32) (v6 : Int32) (v9 : Int32) (v11 : Int32) (p0 : Int32) (p1 : Int32) (q : List Int32) (t0 : S) (t1 : S) : Option (Int32 × S × S) :=
  if p1 = p0 then
    law_230 k114 v3 v4 v5 v6 v9 v11 (if v9 < 0 then (1 : Int32) else (0 : Int32)) q t0 t1
  else
    some ((0 : Int32), t0, t1)
def law_205 (k114 : Int32 → Int32 → List Int32 → S → S → Option (Int32 × S × S)) (v3 : Int32) (v4 : Int32) (v5 : Int32) (v6 : Int32) (v9 : Int32) (v11 : Int32) (v12 : Int32) (p0 : Int32) (q : List Int32) (t0 : S) (t1 : S) : Option (Int32 × S × S) :=
  law_217 k114 v3 v4 v5 v6 v9 v11 (if v11 = v12 then (1 : Int32) else (0 : Int32)) p0 q t0 t1
def law_114  : Nat → Int32 → Int32 → List Int32 → S → S → Option (Int32 × S × S)
  | 0, _, _, _, _, _ => none
  | n + 1, v3, v4, q, t0, t1 =>
    if v4 < (256 : Int32) then
      (k_frameOf ((v4 >>> ((4 : Int32) &&& 31)) >>> ((2 : Int32) &&& 31)) ((v4 >>> ((4 : Int32) &&& 31)) &&& (3 : Int32)) t0).bind fun r158 =>
      (k_frameOf ((v4 &&& (15 : Int32)) >>> ((2 : Int32) &&& 31)) (v4 &&& (3 : Int32)) t0).bind fun r168 =>
      (k_frameOf ((v4 >>> ((4 : Int32) &&& 31)) >>> ((2 : Int32) &&& 31)) ((v4 >>> ((4 : Int32) &&& 31)) &&& (3 : Int32)) t1).bind fun r178 =>
      (k_frameOf ((v4 &&& (15 : Int32)) >>> ((2 : Int32) &&& 31)) (v4 &&& (3 : Int32)) t1).bind fun r188 =>
      law_205 (fun v3 v4 q t0 t1 => law_114 n v3 v4 q t0 t1) v3 v4 ((v4 >>> ((4 : Int32) &&& 31)) >>> ((2 : Int32) &&& 31)) ((v4 >>> ((4 : Int32) &&& 31)) &&& (3 : Int32)) r158 r178 r188 (if r158 = r168 then (1 : Int32) else (0 : Int32)) q t0 t1
    else
      law_297 v3 q t0 t1
def law_91   (q : List Int32) (t0 : S) (t1 : S) : Option (Int32 × S × S) :=
  (k_compact (64 : Int32) t0).bind fun r94 =>
  if (k_freeCount r94.2) = (k_freeCount t1) then
    law_114 BIG r94.1 (0 : Int32) q r94.2 t1
  else
    some ((0 : Int32), r94.2, t1)
def law_24  : Nat → Int32 → List Int32 → S → S → Option (Int32 × S × S)
  | 0, _, _, _, _ => none
  | n + 1, v3, q, t0, t1 =>
    if (v3 + (3 : Int32)) < q.length.toInt32 then
      (ix q v3).bind fun a34 =>
      (ix q (v3 + (1 : Int32))).bind fun a50 =>
      (ix q (v3 + (2 : Int32))).bind fun a55 =>
      (ix q (v3 + (3 : Int32))).bind fun a60 =>
      (h_step ((a34 &&& (15 : Int32)) % (9 : Int32)) a50 a55 a60 t0).bind fun r61 =>
      (ix q (v3 + (1 : Int32))).bind fun a71 =>
      (ix q (v3 + (2 : Int32))).bind fun a76 =>
      (ix q (v3 + (3 : Int32))).bind fun a81 =>
      (h_step ((a34 &&& (15 : Int32)) % (9 : Int32)) a71 a76 a81 t1).bind fun r82 =>
      law_24 n (v3 + (4 : Int32)) q r61 r82
    else
      law_91 q t0 t1
def law   (q : List Int32) : Option (Int32 × S × S) :=
  (k_init (8 : Int32) (4 : Int32)).bind fun r7 =>
  (k_init (8 : Int32) (4 : Int32)).bind fun r18 =>
  law_24 BIG (0 : Int32) q r7 r18
set_option maxRecDepth 65536 in
set_option maxHeartbeats 4000000 in
theorem k_clampInt_ok  {s : S} : ∀ (v1 : Int32) (v2 : Int32) (v3 : Int32)   (o : Int32), k_clampInt v1 v2 v3 = o → Go PP m0 0 [.val (.ref 1), .val (.int v1), .val (.int v2), .val (.int v3)] [] (none, [(8, s)]) (some (.int o), (none, [(8, s)])) := by
  intro v1 v2 v3 o hf
  unfold k_clampInt at hf
  refine go_iloadN (pc := 0) d0_0 rfl (go_iloadN (pc := 1) d0_1 rfl ?_)
  by_cases h1 : v1 < v2
  · replace hf := (if_pos h1).symm.trans hf
    refine go_icN (pc := 2) d0_2 (XT.ii_ge_f h1) ?_
    refine go_iloadN (pc := 5) d0_5 rfl ?_
    cases hf
    exact go_iret (pc := 6) rfl d0_6
  · replace hf := (if_neg h1).symm.trans hf
    refine go_icY (pc := 2) (pc' := 7) d0_2 (XT.ii_ge_t h1) j_2_5 ?_
    refine go_iloadN (pc := 7) d0_7 rfl (go_iloadN (pc := 8) d0_8 rfl ?_)
    by_cases h2 : v3 < v1
    · replace hf := (if_pos h2).symm.trans hf
      refine go_icN (pc := 9) d0_9 (XT.ii_le_f h2) ?_
      refine go_iloadN (pc := 12) d0_12 rfl ?_
      cases hf
      exact go_iret (pc := 13) rfl d0_13
    · replace hf := (if_neg h2).symm.trans hf
      refine go_icY (pc := 9) (pc' := 14) d0_9 (XT.ii_le_t h2) j_9_5 ?_
      refine go_iloadN (pc := 14) d0_14 rfl ?_
      cases hf
      exact go_iret (pc := 15) rfl d0_15
theorem c_k_clampInt (v1 : Int32) (v2 : Int32) (v3 : Int32) (s : S) : Call PP m0 [.ref 1, .int v1, .int v2, .int v3] (none, [(8, s)]) (some (.int (k_clampInt v1 v2 v3)), (none, [(8, s)])) := call_of_go pl_0 rfl (fun h => nomatch h) (k_clampInt_ok v1 v2 v3   _ rfl)
set_option maxRecDepth 65536 in
set_option maxHeartbeats 4000000 in
theorem k_lowMask_ok  {s : S} : ∀ (v1 : Int32)   (o : Int64), k_lowMask v1 = o → Go PP m1 0 [.val (.ref 1), .val (.int v1)] [] (none, [(8, s)]) (some (.long o), (none, [(8, s)])) := by
  intro v1 o hf
  unfold k_lowMask at hf
  refine go_iloadN (pc := 0) d1_0 rfl ?_
  by_cases h1 : 0 < v1
  · replace hf := (if_pos h1).symm.trans hf
    refine go_ifY (pc := 1) (pc' := 6) d1_1 (XT.i0_gt_t h1) j_1_5 ?_
    refine go_iloadN (pc := 6) d1_6 rfl (go_bipush (pc := 7) d1_7 cb_64 ?_)
    by_cases h2 : v1 < (64 : Int32)
    · replace hf := (if_pos h2).symm.trans hf
      refine go_icY (pc := 9) (pc' := 16) d1_9 (XT.ii_lt_t h2) j_9_7 ?_
      refine go_lconst (pc := 16) d1_16 cl_1 (go_iloadN (pc := 17) d1_17 rfl (go_lshl (pc := 18) d1_18 (go_lconst (pc := 19) d1_19 cl_1 (go_lsub (pc := 20) d1_20 ?_))))
      cases hf
      exact go_lret (pc := 21) rfl d1_21
    · replace hf := (if_neg h2).symm.trans hf
      refine go_icN (pc := 9) d1_9 (XT.ii_lt_f h2) ?_
      refine go_ldc2 (pc := 12) (u := (-1 : Int64)) d1_12 (List.mem_of_getElem? (i := 110) rfl) ?_
      cases hf
      exact go_lret (pc := 15) rfl d1_15
  · replace hf := (if_neg h1).symm.trans hf
    refine go_ifN (pc := 1) d1_1 (XT.i0_gt_f h1) ?_
    refine go_lconst (pc := 4) d1_4 cl_0 ?_
    cases hf
    exact go_lret (pc := 5) rfl d1_5
theorem c_k_lowMask (v1 : Int32) (s : S) : Call PP m1 [.ref 1, .int v1] (none, [(8, s)]) (some (.long (k_lowMask v1)), (none, [(8, s)])) := call_of_go pl_0 rfl (fun h => nomatch h) (k_lowMask_ok v1   _ rfl)
set_option maxRecDepth 65536 in
set_option maxHeartbeats 4000000 in
theorem k_resetAll_63_ok  : ∀  (s : S) (x1 : Slot) (hx1 : k1 x1) (o : S), k_resetAll_63 s = some o → Go PP m2 63 [.val (.ref 1), x1] [] (none, [(8, s)]) (none, (none, [(8, o)])) := by
  intro s x1 hx1 o hf
  unfold k_resetAll_63 at hf
  refine go_aloadN (pc := 63) d2_63 rfl (go_aloadN (pc := 64) d2_64 rfl (go_aloadN (pc := 65) d2_65 rfl (go_getI (pc := 66) fs_40 hm_2 d2_66 ?_)))
  refine go_priv (pc := 69) (i := 0) (as := [.int (gI s 0)]) (rest := [.ref 1]) (w' := (none, [(8, s)])) lk_0_129 pd_1 rfl oid_0 rfl rfl rfl rfl rfl rfl ⟨rfl, rfl, rfl, rfl, rfl⟩ d2_69 (c_k_lowMask (gI s 0) s) ?_
  refine go_putJ (pc := 72) fs_54 hm_2 (wr_2 _) hn_2 d2_72 (go_aloadN (pc := 75) d2_75 rfl (go_lconst (pc := 76) d2_76 cl_0 (go_putJ (pc := 77) fs_132 hm_2 (wr_3 _) hn_2 d2_77 (go_aloadN (pc := 80) d2_80 rfl (go_lconst (pc := 81) d2_81 cl_0 (go_putJ (pc := 82) fs_135 hm_2 (wr_4 _) hn_2 d2_82 (go_aloadN (pc := 85) d2_85 rfl ?_)))))))
  refine go_lconst (pc := 86) d2_86 cl_0 (go_putJ (pc := 87) fs_138 hm_2 (wr_5 _) hn_2 d2_87 (go_aloadN (pc := 90) d2_90 rfl (go_iconst (pc := 91) d2_91 ci_1 (go_putZ (pc := 92) fs_141 hm_2 (wr_6 _) hn_2 (by decide) d2_92 ?_))))
  cases hf
  exact go_ret (pc := 95) rfl d2_95
set_option maxRecDepth 65536 in
set_option maxHeartbeats 4000000 in
theorem k_resetAll_2_ok  : ∀ (n : Nat) (v1 : Int32) (s : S)  (o : S), k_resetAll_2 n v1 s = some o → Go PP m2 2 [.val (.ref 1), .val (.int v1)] [] (none, [(8, s)]) (none, (none, [(8, o)])) := by
  intro n
  induction n with
  | zero => intro v1 s o hf; exact nomatch hf
  | succ n ih =>
    intro v1 s o hf
    unfold k_resetAll_2 at hf
    refine go_iloadN (pc := 2) d2_2 rfl (go_bipush (pc := 3) d2_3 cb_64 ?_)
    by_cases h1 : v1 < (64 : Int32)
    · replace hf := (if_pos h1).symm.trans hf
      refine go_icN (pc := 5) d2_5 (XT.ii_ge_f h1) ?_
      refine go_aloadN (pc := 8) d2_8 rfl (go_getA (pc := 9) fa_7 hm_2 d2_9 rfl (go_iloadN (pc := 12) d2_12 rfl (go_iconst (pc := 13) d2_13 ci_0 ?_)))
      obtain ⟨a14, e2, hf⟩ := Option.bind_eq_some_iff.mp hf
      refine go_bastore (pc := 14) (q := 0) ar_0 (by decide) rfl hn_2 rfl e2 d2_14 ?_
      refine go_aloadN (pc := 15) d2_15 rfl (go_getA (pc := 16) fa_13 hm_2 d2_16 rfl (go_iloadN (pc := 19) d2_19 rfl (go_iconst (pc := 20) d2_20 ci_0 ?_)))
      obtain ⟨a21, e3, hf⟩ := Option.bind_eq_some_iff.mp hf
      refine go_iastore (pc := 21) (q := 1) ar_1 rfl hn_2 e3 d2_21 ?_
      refine go_aloadN (pc := 22) d2_22 rfl (go_getA (pc := 23) fa_17 hm_2 d2_23 rfl (go_iloadN (pc := 26) d2_26 rfl (go_iconst (pc := 27) d2_27 ci_0 ?_)))
      obtain ⟨a28, e4, hf⟩ := Option.bind_eq_some_iff.mp hf
      refine go_iastore (pc := 28) (q := 2) ar_2 rfl hn_2 e4 d2_28 ?_
      refine go_aloadN (pc := 29) d2_29 rfl (go_getA (pc := 30) fa_20 hm_2 d2_30 rfl (go_iloadN (pc := 33) d2_33 rfl (go_iconst (pc := 34) d2_34 ci_m1 ?_)))
      obtain ⟨a35, e5, hf⟩ := Option.bind_eq_some_iff.mp hf
      refine go_iastore (pc := 35) (q := 3) ar_3 rfl hn_2 e5 d2_35 ?_
      refine go_aloadN (pc := 36) d2_36 rfl (go_getA (pc := 37) fa_23 hm_2 d2_37 rfl (go_iloadN (pc := 40) d2_40 rfl (go_iconst (pc := 41) d2_41 ci_m1 ?_)))
      obtain ⟨a42, e6, hf⟩ := Option.bind_eq_some_iff.mp hf
      refine go_iastore (pc := 42) (q := 4) ar_4 rfl hn_2 e6 d2_42 ?_
      refine go_aloadN (pc := 43) d2_43 rfl (go_getA (pc := 44) fa_26 hm_2 d2_44 rfl (go_iloadN (pc := 47) d2_47 rfl (go_iconst (pc := 48) d2_48 ci_m1 ?_)))
      obtain ⟨a49, e7, hf⟩ := Option.bind_eq_some_iff.mp hf
      refine go_iastore (pc := 49) (q := 5) ar_5 rfl hn_2 e7 d2_49 ?_
      refine go_aloadN (pc := 50) d2_50 rfl (go_getA (pc := 51) fa_29 hm_2 d2_51 rfl (go_iloadN (pc := 54) d2_54 rfl (go_iconst (pc := 55) d2_55 ci_m1 ?_)))
      obtain ⟨a56, e8, hf⟩ := Option.bind_eq_some_iff.mp hf
      refine go_iastore (pc := 56) (q := 6) ar_6 rfl hn_2 e8 d2_56 ?_
      refine go_iinc (pc := 57) (L' := [.val (.ref 1), .val (.int (v1 + (1 : Int32)))]) d2_57 rfl ci_1 rfl (go_goto (pc := 60) (pc' := 2) d2_60 j_60_m58 ?_)
      exact ih (v1 + (1 : Int32)) (sA (sA (sA (sA (sA (sA (sA s 0 a14) 1 a21) 2 a28) 3 a35) 4 a42) 5 a49) 6 a56) _ hf
    · replace hf := (if_neg h1).symm.trans hf
      refine go_icY (pc := 5) (pc' := 63) d2_5 (XT.ii_ge_t h1) j_5_58 ?_
      exact k_resetAll_63_ok s (.val (.int v1)) (Or.inr ⟨_, rfl, rfl⟩) _ hf
set_option maxRecDepth 65536 in
set_option maxHeartbeats 4000000 in
theorem k_resetAll_ok  : ∀  (s : S)  (o : S), k_resetAll s = some o → Go PP m2 0 [.val (.ref 1), .unset] [] (none, [(8, s)]) (none, (none, [(8, o)])) := by
  intro s o hf
  unfold k_resetAll at hf
  refine go_iconst (pc := 0) d2_0 ci_0 (go_istoreN (pc := 1) (L' := [.val (.ref 1), .val (.int (0 : Int32))]) d2_1 rfl ?_)
  exact k_resetAll_2_ok BIG (0 : Int32) s _ hf
theorem c_k_resetAll (s : S) (o : S) (hf : k_resetAll s = some o) : Call PP m2 [.ref 1] (none, [(8, s)]) (none, (none, [(8, o)])) := call_of_go pl_0 rfl (fun _ => rfl) (k_resetAll_ok s   _ hf)
set_option maxRecDepth 65536 in
set_option maxHeartbeats 4000000 in
theorem k_init_ok  : ∀ (v1 : Int32) (v2 : Int32)   (o : S), k_init v1 v2 = some o → Go PP m3 0 [.val (.ref 1), .val (.int v1), .val (.int v2)] [] (none, [(0, s0)]) (none, (none, [(8, o)])) := by
  intro v1 v2 o hf
  unfold k_init at hf
  refine go_aloadN (pc := 0) d3_0 rfl ?_
  refine go_objinit (pc := 1) (rest := []) (a := 0) (List.mem_of_getElem? (i := 6) rfl) (List.mem_of_getElem? (i := 7) rfl) (List.mem_of_getElem? (i := 8) rfl) rfl rfl d3_1 ?_
  refine go_aloadN (pc := 4) d3_4 rfl (go_bipush (pc := 5) d3_5 cb_64 ?_)
  refine go_newI (pc := 7) (ty := .byte) rfl (by decide) ar_0 (List.mem_of_getElem? (i := 9) rfl) (List.mem_of_getElem? (i := 10) rfl) hm_3 (Or.inr ⟨List.mem_of_getElem? (i := 11) rfl, rfl⟩) rfl hn_3 (by decide) rfl rfl rfl rfl d3_7 d3_9 ?_
  refine go_aloadN (pc := 12) d3_12 rfl (go_bipush (pc := 13) d3_13 cb_64 ?_)
  refine go_newI (pc := 15) (ty := .int) rfl (by decide) ar_1 (List.mem_of_getElem? (i := 12) rfl) (List.mem_of_getElem? (i := 13) rfl) hm_3 (Or.inr ⟨List.mem_of_getElem? (i := 14) rfl, rfl⟩) rfl hn_3 (by decide) rfl rfl rfl rfl d3_15 d3_17 ?_
  refine go_aloadN (pc := 20) d3_20 rfl (go_bipush (pc := 21) d3_21 cb_64 ?_)
  refine go_newI (pc := 23) (ty := .int) rfl (by decide) ar_2 (List.mem_of_getElem? (i := 12) rfl) (List.mem_of_getElem? (i := 15) rfl) hm_3 (Or.inr ⟨List.mem_of_getElem? (i := 16) rfl, rfl⟩) rfl hn_3 (by decide) rfl rfl rfl rfl d3_23 d3_25 ?_
  refine go_aloadN (pc := 28) d3_28 rfl (go_bipush (pc := 29) d3_29 cb_64 ?_)
  refine go_newI (pc := 31) (ty := .int) rfl (by decide) ar_3 (List.mem_of_getElem? (i := 12) rfl) (List.mem_of_getElem? (i := 17) rfl) hm_3 (Or.inr ⟨List.mem_of_getElem? (i := 18) rfl, rfl⟩) rfl hn_3 (by decide) rfl rfl rfl rfl d3_31 d3_33 ?_
  refine go_aloadN (pc := 36) d3_36 rfl (go_bipush (pc := 37) d3_37 cb_64 ?_)
  refine go_newI (pc := 39) (ty := .int) rfl (by decide) ar_4 (List.mem_of_getElem? (i := 12) rfl) (List.mem_of_getElem? (i := 19) rfl) hm_3 (Or.inr ⟨List.mem_of_getElem? (i := 20) rfl, rfl⟩) rfl hn_3 (by decide) rfl rfl rfl rfl d3_39 d3_41 ?_
  refine go_aloadN (pc := 44) d3_44 rfl (go_bipush (pc := 45) d3_45 cb_64 ?_)
  refine go_newI (pc := 47) (ty := .int) rfl (by decide) ar_5 (List.mem_of_getElem? (i := 12) rfl) (List.mem_of_getElem? (i := 21) rfl) hm_3 (Or.inr ⟨List.mem_of_getElem? (i := 22) rfl, rfl⟩) rfl hn_3 (by decide) rfl rfl rfl rfl d3_47 d3_49 ?_
  refine go_aloadN (pc := 52) d3_52 rfl (go_bipush (pc := 53) d3_53 cb_64 ?_)
  refine go_newI (pc := 55) (ty := .int) rfl (by decide) ar_6 (List.mem_of_getElem? (i := 12) rfl) (List.mem_of_getElem? (i := 23) rfl) hm_3 (Or.inr ⟨List.mem_of_getElem? (i := 24) rfl, rfl⟩) rfl hn_3 (by decide) rfl rfl rfl rfl d3_55 d3_57 ?_
  refine go_aloadN (pc := 60) d3_60 rfl (go_bipush (pc := 61) d3_61 cb_7 ?_)
  refine go_newJ (pc := 63) ar_7 (List.mem_of_getElem? (i := 25) rfl) (List.mem_of_getElem? (i := 26) rfl) hm_3 (Or.inr ⟨List.mem_of_getElem? (i := 27) rfl, rfl⟩) rfl hn_3 (by decide) rfl rfl rfl rfl d3_63 d3_65 ?_
  refine go_aloadN (pc := 68) d3_68 rfl (go_aloadN (pc := 69) d3_69 rfl (go_iloadN (pc := 70) d3_70 rfl (go_bipush (pc := 71) d3_71 cb_8 (go_bipush (pc := 73) d3_73 cb_64 ?_))))
  refine go_priv (pc := 75) (i := 0) (as := [.int v1, .int (8 : Int32), .int (64 : Int32)]) (rest := [.ref 1]) (w' := (none, [(8, sB (sA (sA (sA (sA (sA (sA (sA s0 0 (rep 64 0)) 1 (rep 64 0)) 2 (rep 64 0)) 3 (rep 64 0)) 4 (rep 64 0)) 5 (rep 64 0)) 6 (rep 64 0)) 7 (rep 7 0))])) lk_0_36 pd_0 rfl oid_0 rfl rfl rfl rfl rfl rfl ⟨rfl, rfl, rfl, rfl, rfl⟩ d3_75 (c_k_clampInt v1 (8 : Int32) (64 : Int32) (sB (sA (sA (sA (sA (sA (sA (sA s0 0 (rep 64 0)) 1 (rep 64 0)) 2 (rep 64 0)) 3 (rep 64 0)) 4 (rep 64 0)) 5 (rep 64 0)) 6 (rep 64 0)) 7 (rep 7 0))) ?_
  refine go_putI (pc := 78) fs_40 hm_3 (wr_0 _) hn_3 d3_78 (go_aloadN (pc := 81) d3_81 rfl (go_aloadN (pc := 82) d3_82 rfl (go_iloadN (pc := 83) d3_83 rfl (go_iconst (pc := 84) d3_84 ci_4 (go_bipush (pc := 85) d3_85 cb_16 ?_)))))
  refine go_priv (pc := 87) (i := 0) (as := [.int v2, .int (4 : Int32), .int (16 : Int32)]) (rest := [.ref 1]) (w' := (none, [(8, sI (sB (sA (sA (sA (sA (sA (sA (sA s0 0 (rep 64 0)) 1 (rep 64 0)) 2 (rep 64 0)) 3 (rep 64 0)) 4 (rep 64 0)) 5 (rep 64 0)) 6 (rep 64 0)) 7 (rep 7 0)) 0 (k_clampInt v1 (8 : Int32) (64 : Int32)))])) lk_0_36 pd_0 rfl oid_0 rfl rfl rfl rfl rfl rfl ⟨rfl, rfl, rfl, rfl, rfl⟩ d3_87 (c_k_clampInt v2 (4 : Int32) (16 : Int32) (sI (sB (sA (sA (sA (sA (sA (sA (sA s0 0 (rep 64 0)) 1 (rep 64 0)) 2 (rep 64 0)) 3 (rep 64 0)) 4 (rep 64 0)) 5 (rep 64 0)) 6 (rep 64 0)) 7 (rep 7 0)) 0 (k_clampInt v1 (8 : Int32) (64 : Int32)))) ?_
  refine go_putI (pc := 90) fs_44 hm_3 (wr_1 _) hn_3 d3_90 (go_aloadN (pc := 93) d3_93 rfl ?_)
  obtain ⟨r94, e9, hf⟩ := Option.bind_eq_some_iff.mp hf
  refine go_priv (pc := 94) (i := 0) (as := []) (rest := []) (w' := (none, [(8, r94)])) lk_0_47 pd_2 rfl oid_0 rfl rfl rfl rfl rfl rfl ⟨rfl, rfl, rfl, rfl, rfl⟩ d3_94 (c_k_resetAll (sI (sI (sB (sA (sA (sA (sA (sA (sA (sA s0 0 (rep 64 0)) 1 (rep 64 0)) 2 (rep 64 0)) 3 (rep 64 0)) 4 (rep 64 0)) 5 (rep 64 0)) 6 (rep 64 0)) 7 (rep 7 0)) 0 (k_clampInt v1 (8 : Int32) (64 : Int32))) 1 (k_clampInt v2 (4 : Int32) (16 : Int32))) _ e9) ?_
  cases hf
  exact go_ret (pc := 97) rfl d3_97
theorem c_k_init (v1 : Int32) (v2 : Int32) (o : S) (hf : k_init v1 v2 = some o) : Call PP m3 [.ref 1, .int v1, .int v2] (none, [(0, s0)]) (none, (none, [(8, o)])) := call_of_go pl_0 rfl (fun _ => rfl) (k_init_ok v1 v2   _ hf)
set_option maxRecDepth 65536 in
set_option maxHeartbeats 4000000 in
theorem k_pageInRange_ok  : ∀ (v1 : Int32) (v2 : Int32) (s : S)  (o : Int32), k_pageInRange v1 v2 s = o → Go PP m4 0 [.val (.ref 1), .val (.int v1), .val (.int v2)] [] (none, [(8, s)]) (some (.int o), (none, [(8, s)])) := by
  intro v1 v2 s o hf
  unfold k_pageInRange at hf
  refine go_iloadN (pc := 0) d4_0 rfl ?_
  by_cases h1 : v1 < 0
  · replace hf := (if_pos h1).symm.trans hf
    refine go_ifY (pc := 1) (pc' := 9) d4_1 (XT.i0_lt_t h1) j_1_8 ?_
    refine go_iconst (pc := 9) d4_9 ci_0 ?_
    cases hf
    exact go_zret (pc := 10) rfl d4_10 (show (0 : Int32) = nar .boolean (0 : Int32) by decide)
  · replace hf := (if_neg h1).symm.trans hf
    refine go_ifN (pc := 1) d4_1 (XT.i0_lt_f h1) ?_
    refine go_iloadN (pc := 4) d4_4 rfl (go_iconst (pc := 5) d4_5 ci_4 ?_)
    by_cases h2 : v1 < (4 : Int32)
    · replace hf := (if_pos h2).symm.trans hf
      refine go_icY (pc := 6) (pc' := 11) d4_6 (XT.ii_lt_t h2) j_6_5 ?_
      refine go_iloadN (pc := 11) d4_11 rfl ?_
      by_cases h3 : v2 < 0
      · replace hf := (if_pos h3).symm.trans hf
        refine go_ifY (pc := 12) (pc' := 27) d4_12 (XT.i0_lt_t h3) j_12_15 ?_
        refine go_iconst (pc := 27) d4_27 ci_0 ?_
        cases hf
        exact go_zret (pc := 28) rfl d4_28 (show (0 : Int32) = nar .boolean (0 : Int32) by decide)
      · replace hf := (if_neg h3).symm.trans hf
        refine go_ifN (pc := 12) d4_12 (XT.i0_lt_f h3) ?_
        refine go_iloadN (pc := 15) d4_15 rfl (go_aloadN (pc := 16) d4_16 rfl (go_getI (pc := 17) fs_44 hm_4 d4_17 ?_))
        by_cases h4 : v2 < (gI s 1)
        · replace hf := (if_pos h4).symm.trans hf
          refine go_icN (pc := 20) d4_20 (XT.ii_ge_f h4) ?_
          refine go_iconst (pc := 23) d4_23 ci_1 (go_goto (pc := 24) (pc' := 28) d4_24 j_24_4 ?_)
          cases hf
          exact go_zret (pc := 28) rfl d4_28 (show (1 : Int32) = nar .boolean (1 : Int32) by decide)
        · replace hf := (if_neg h4).symm.trans hf
          refine go_icY (pc := 20) (pc' := 27) d4_20 (XT.ii_ge_t h4) j_20_7 ?_
          refine go_iconst (pc := 27) d4_27 ci_0 ?_
          cases hf
          exact go_zret (pc := 28) rfl d4_28 (show (0 : Int32) = nar .boolean (0 : Int32) by decide)
    · replace hf := (if_neg h2).symm.trans hf
      refine go_icN (pc := 6) d4_6 (XT.ii_lt_f h2) ?_
      refine go_iconst (pc := 9) d4_9 ci_0 ?_
      cases hf
      exact go_zret (pc := 10) rfl d4_10 (show (0 : Int32) = nar .boolean (0 : Int32) by decide)
theorem c_k_pageInRange (v1 : Int32) (v2 : Int32) (s : S) : Call PP m4 [.ref 1, .int v1, .int v2] (none, [(8, s)]) (some (.int (k_pageInRange v1 v2 s)), (none, [(8, s)])) := call_of_go pl_0 rfl (fun h => nomatch h) (k_pageInRange_ok v1 v2 s   _ rfl)
set_option maxRecDepth 65536 in
set_option maxHeartbeats 4000000 in
theorem k_slotOf_ok  {s : S} : ∀ (v1 : Int32) (v2 : Int32)   (o : Int32), k_slotOf v1 v2 = o → Go PP m5 0 [.val (.ref 1), .val (.int v1), .val (.int v2)] [] (none, [(8, s)]) (some (.int o), (none, [(8, s)])) := by
  intro v1 v2 o hf
  unfold k_slotOf at hf
  refine go_iloadN (pc := 0) d5_0 rfl (go_bipush (pc := 1) d5_1 cb_16 (go_imul (pc := 3) d5_3 (go_iloadN (pc := 4) d5_4 rfl (go_iadd (pc := 5) d5_5 ?_))))
  cases hf
  exact go_iret (pc := 6) rfl d5_6
theorem c_k_slotOf (v1 : Int32) (v2 : Int32) (s : S) : Call PP m5 [.ref 1, .int v1, .int v2] (none, [(8, s)]) (some (.int (k_slotOf v1 v2)), (none, [(8, s)])) := call_of_go pl_0 rfl (fun h => nomatch h) (k_slotOf_ok v1 v2   _ rfl)
set_option maxRecDepth 65536 in
set_option maxHeartbeats 4000000 in
theorem k_checkTarget_ok  : ∀ (v1 : Int32) (v2 : Int32) (s : S)  (o : Int32), k_checkTarget v1 v2 s = some o → Go PP m6 0 [.val (.ref 1), .val (.int v1), .val (.int v2), .unset] [] (none, [(8, s)]) (some (.int o), (none, [(8, s)])) := by
  intro v1 v2 s o hf
  unfold k_checkTarget at hf
  refine go_aloadN (pc := 0) d6_0 rfl (go_iloadN (pc := 1) d6_1 rfl (go_iloadN (pc := 2) d6_2 rfl ?_))
  refine go_priv (pc := 3) (i := 0) (as := [.int v1, .int v2]) (rest := []) (w' := (none, [(8, s)])) lk_0_76 pd_4 rfl oid_0 rfl rfl rfl rfl rfl rfl ⟨rfl, rfl, rfl, rfl, rfl⟩ d6_3 (c_k_pageInRange v1 v2 s) ?_
  by_cases h1 : (k_pageInRange v1 v2 s) = 0
  · replace hf := (if_pos h1).symm.trans hf
    refine go_ifN (pc := 6) d6_6 (XT.i0_ne_f h1) ?_
    refine go_iconst (pc := 9) d6_9 ci_m1 ?_
    cases hf
    exact go_iret (pc := 10) rfl d6_10
  · replace hf := (if_neg h1).symm.trans hf
    refine go_ifY (pc := 6) (pc' := 11) d6_6 (XT.i0_ne_t h1) j_6_5 ?_
    refine go_aloadN (pc := 11) d6_11 rfl (go_iloadN (pc := 12) d6_12 rfl (go_iloadN (pc := 13) d6_13 rfl ?_))
    refine go_priv (pc := 14) (i := 0) (as := [.int v1, .int v2]) (rest := []) (w' := (none, [(8, s)])) lk_0_66 pd_5 rfl oid_0 rfl rfl rfl rfl rfl rfl ⟨rfl, rfl, rfl, rfl, rfl⟩ d6_14 (c_k_slotOf v1 v2 s) ?_
    refine go_istoreN (pc := 17) (L' := [.val (.ref 1), .val (.int v1), .val (.int v2), .val (.int (k_slotOf v1 v2))]) d6_17 rfl (go_aloadN (pc := 18) d6_18 rfl (go_getA (pc := 19) fa_20 hm_6 d6_19 rfl (go_iloadN (pc := 22) d6_22 rfl ?_)))
    obtain ⟨a23, e2, hf⟩ := Option.bind_eq_some_iff.mp hf
    refine go_iaload (pc := 23) (q := 3) ar_3 rfl e2 d6_23 ?_
    by_cases h3 : a23 < 0
    · replace hf := (if_pos h3).symm.trans hf
      refine go_ifY (pc := 24) (pc' := 30) d6_24 (XT.i0_lt_t h3) j_24_6 ?_
      refine go_iconst (pc := 30) d6_30 ci_0 ?_
      cases hf
      exact go_iret (pc := 31) rfl d6_31
    · replace hf := (if_neg h3).symm.trans hf
      refine go_ifN (pc := 24) d6_24 (XT.i0_lt_f h3) ?_
      refine go_bipush (pc := 27) d6_27 cb_m2 ?_
      cases hf
      exact go_iret (pc := 29) rfl d6_29
theorem c_k_checkTarget (v1 : Int32) (v2 : Int32) (s : S) (o : Int32) (hf : k_checkTarget v1 v2 s = some o) : Call PP m6 [.ref 1, .int v1, .int v2] (none, [(8, s)]) (some (.int o), (none, [(8, s)])) := call_of_go pl_0 rfl (fun h => nomatch h) (k_checkTarget_ok v1 v2 s   _ hf)
set_option maxRecDepth 65536 in
set_option maxHeartbeats 4000000 in
theorem k_lowestBit_116_ok  {s : S} : ∀ (v3 : Int32) (v4 : Int64)  (x1 : Slot) (x2 : Slot) (hx1 : k2 x1 x2) (o : Int32), k_lowestBit_116 v3 v4 = o → Go PP m7 116 [.val (.ref 1), x1, x2, .val (.int v3), .val (.long v4), .second] [] (none, [(8, s)]) (some (.int o), (none, [(8, s)])) := by
  intro v3 v4 x1 x2 hx1 o hf
  unfold k_lowestBit_116 at hf
  refine go_lload (pc := 116) d7_116 rfl (go_lconst (pc := 118) d7_118 cl_1 (go_land (pc := 119) d7_119 (go_lconst (pc := 120) d7_120 cl_0 (go_lcmp (pc := 121) d7_121 ?_))))
  by_cases h2 : (v4 &&& (1 : Int64)) = (0 : Int64)
  · replace hf := (if_pos h2).symm.trans hf
    refine go_ifN (pc := 122) d7_122 (XT.ll_ne_f h2) ?_
    refine go_iinc (pc := 125) (L' := [.val (.ref 1), x1, x2, .val (.int (v3 + (1 : Int32))), .val (.long v4), .second]) d7_125 rfl ci_1 rfl (go_iloadN (pc := 128) d7_128 rfl ?_)
    cases hf
    exact go_iret (pc := 129) rfl d7_129
  · replace hf := (if_neg h2).symm.trans hf
    refine go_ifY (pc := 122) (pc' := 128) d7_122 (XT.ll_ne_t h2) j_122_6 ?_
    refine go_iloadN (pc := 128) d7_128 rfl ?_
    cases hf
    exact go_iret (pc := 129) rfl d7_129
set_option maxRecDepth 65536 in
set_option maxHeartbeats 4000000 in
theorem k_lowestBit_96_ok  {s : S} : ∀ (v3 : Int32) (v4 : Int64)  (x1 : Slot) (x2 : Slot) (hx1 : k2 x1 x2) (o : Int32), k_lowestBit_96 v3 v4 = o → Go PP m7 96 [.val (.ref 1), x1, x2, .val (.int v3), .val (.long v4), .second] [] (none, [(8, s)]) (some (.int o), (none, [(8, s)])) := by
  intro v3 v4 x1 x2 hx1 o hf
  unfold k_lowestBit_96 at hf
  refine go_lload (pc := 96) d7_96 rfl (go_ldc2 (pc := 98) (u := (3 : Int64)) d7_98 (List.mem_of_getElem? (i := 101) rfl) (go_land (pc := 101) d7_101 (go_lconst (pc := 102) d7_102 cl_0 (go_lcmp (pc := 103) d7_103 ?_))))
  by_cases h1 : (v4 &&& (3 : Int64)) = (0 : Int64)
  · refine go_ifN (pc := 104) d7_104 (XT.ll_ne_f h1) ?_
    refine go_iinc (pc := 107) (L' := [.val (.ref 1), x1, x2, .val (.int (v3 + (2 : Int32))), .val (.long v4), .second]) d7_107 rfl ci_2 rfl (go_lload (pc := 110) d7_110 rfl (go_iconst (pc := 112) d7_112 ci_2 (go_lushr (pc := 113) d7_113 (go_lstore (pc := 114) (L' := [.val (.ref 1), x1, x2, .val (.int (v3 + (2 : Int32))), .val (.long (XT.ushrL v4 (2 : Int32))), .second]) d7_114 rfl ?_))))
    exact k_lowestBit_116_ok (v3 + (2 : Int32)) (XT.ushrL v4 (2 : Int32)) x1 x2 hx1 _ (by simpa only [if_pos h1] using hf)
  · refine go_ifY (pc := 104) (pc' := 116) d7_104 (XT.ll_ne_t h1) j_104_12 ?_
    exact k_lowestBit_116_ok v3 v4 x1 x2 hx1 _ (by simpa only [if_neg h1] using hf)
set_option maxRecDepth 65536 in
set_option maxHeartbeats 4000000 in
theorem k_lowestBit_76_ok  {s : S} : ∀ (v3 : Int32) (v4 : Int64)  (x1 : Slot) (x2 : Slot) (hx1 : k2 x1 x2) (o : Int32), k_lowestBit_76 v3 v4 = o → Go PP m7 76 [.val (.ref 1), x1, x2, .val (.int v3), .val (.long v4), .second] [] (none, [(8, s)]) (some (.int o), (none, [(8, s)])) := by
  intro v3 v4 x1 x2 hx1 o hf
  unfold k_lowestBit_76 at hf
  refine go_lload (pc := 76) d7_76 rfl (go_ldc2 (pc := 78) (u := (15 : Int64)) d7_78 (List.mem_of_getElem? (i := 100) rfl) (go_land (pc := 81) d7_81 (go_lconst (pc := 82) d7_82 cl_0 (go_lcmp (pc := 83) d7_83 ?_))))
  by_cases h1 : (v4 &&& (15 : Int64)) = (0 : Int64)
  · refine go_ifN (pc := 84) d7_84 (XT.ll_ne_f h1) ?_
    refine go_iinc (pc := 87) (L' := [.val (.ref 1), x1, x2, .val (.int (v3 + (4 : Int32))), .val (.long v4), .second]) d7_87 rfl ci_4 rfl (go_lload (pc := 90) d7_90 rfl (go_iconst (pc := 92) d7_92 ci_4 (go_lushr (pc := 93) d7_93 (go_lstore (pc := 94) (L' := [.val (.ref 1), x1, x2, .val (.int (v3 + (4 : Int32))), .val (.long (XT.ushrL v4 (4 : Int32))), .second]) d7_94 rfl ?_))))
    exact k_lowestBit_96_ok (v3 + (4 : Int32)) (XT.ushrL v4 (4 : Int32)) x1 x2 hx1 _ (by simpa only [if_pos h1] using hf)
  · refine go_ifY (pc := 84) (pc' := 96) d7_84 (XT.ll_ne_t h1) j_84_12 ?_
    exact k_lowestBit_96_ok v3 v4 x1 x2 hx1 _ (by simpa only [if_neg h1] using hf)
set_option maxRecDepth 65536 in
set_option maxHeartbeats 4000000 in
theorem k_lowestBit_55_ok  {s : S} : ∀ (v3 : Int32) (v4 : Int64)  (x1 : Slot) (x2 : Slot) (hx1 : k2 x1 x2) (o : Int32), k_lowestBit_55 v3 v4 = o → Go PP m7 55 [.val (.ref 1), x1, x2, .val (.int v3), .val (.long v4), .second] [] (none, [(8, s)]) (some (.int o), (none, [(8, s)])) := by
  intro v3 v4 x1 x2 hx1 o hf
  unfold k_lowestBit_55 at hf
  refine go_lload (pc := 55) d7_55 rfl (go_ldc2 (pc := 57) (u := (255 : Int64)) d7_57 (List.mem_of_getElem? (i := 99) rfl) (go_land (pc := 60) d7_60 (go_lconst (pc := 61) d7_61 cl_0 (go_lcmp (pc := 62) d7_62 ?_))))
  by_cases h1 : (v4 &&& (255 : Int64)) = (0 : Int64)
  · refine go_ifN (pc := 63) d7_63 (XT.ll_ne_f h1) ?_
    refine go_iinc (pc := 66) (L' := [.val (.ref 1), x1, x2, .val (.int (v3 + (8 : Int32))), .val (.long v4), .second]) d7_66 rfl ci_8 rfl (go_lload (pc := 69) d7_69 rfl (go_bipush (pc := 71) d7_71 cb_8 (go_lushr (pc := 73) d7_73 (go_lstore (pc := 74) (L' := [.val (.ref 1), x1, x2, .val (.int (v3 + (8 : Int32))), .val (.long (XT.ushrL v4 (8 : Int32))), .second]) d7_74 rfl ?_))))
    exact k_lowestBit_76_ok (v3 + (8 : Int32)) (XT.ushrL v4 (8 : Int32)) x1 x2 hx1 _ (by simpa only [if_pos h1] using hf)
  · refine go_ifY (pc := 63) (pc' := 76) d7_63 (XT.ll_ne_t h1) j_63_13 ?_
    exact k_lowestBit_76_ok v3 v4 x1 x2 hx1 _ (by simpa only [if_neg h1] using hf)
set_option maxRecDepth 65536 in
set_option maxHeartbeats 4000000 in
theorem k_lowestBit_34_ok  {s : S} : ∀ (v3 : Int32) (v4 : Int64)  (x1 : Slot) (x2 : Slot) (hx1 : k2 x1 x2) (o : Int32), k_lowestBit_34 v3 v4 = o → Go PP m7 34 [.val (.ref 1), x1, x2, .val (.int v3), .val (.long v4), .second] [] (none, [(8, s)]) (some (.int o), (none, [(8, s)])) := by
  intro v3 v4 x1 x2 hx1 o hf
  unfold k_lowestBit_34 at hf
  refine go_lload (pc := 34) d7_34 rfl (go_ldc2 (pc := 36) (u := (65535 : Int64)) d7_36 (List.mem_of_getElem? (i := 98) rfl) (go_land (pc := 39) d7_39 (go_lconst (pc := 40) d7_40 cl_0 (go_lcmp (pc := 41) d7_41 ?_))))
  by_cases h1 : (v4 &&& (65535 : Int64)) = (0 : Int64)
  · refine go_ifN (pc := 42) d7_42 (XT.ll_ne_f h1) ?_
    refine go_iinc (pc := 45) (L' := [.val (.ref 1), x1, x2, .val (.int (v3 + (16 : Int32))), .val (.long v4), .second]) d7_45 rfl ci_16 rfl (go_lload (pc := 48) d7_48 rfl (go_bipush (pc := 50) d7_50 cb_16 (go_lushr (pc := 52) d7_52 (go_lstore (pc := 53) (L' := [.val (.ref 1), x1, x2, .val (.int (v3 + (16 : Int32))), .val (.long (XT.ushrL v4 (16 : Int32))), .second]) d7_53 rfl ?_))))
    exact k_lowestBit_55_ok (v3 + (16 : Int32)) (XT.ushrL v4 (16 : Int32)) x1 x2 hx1 _ (by simpa only [if_pos h1] using hf)
  · refine go_ifY (pc := 42) (pc' := 55) d7_42 (XT.ll_ne_t h1) j_42_13 ?_
    exact k_lowestBit_55_ok v3 v4 x1 x2 hx1 _ (by simpa only [if_neg h1] using hf)
set_option maxRecDepth 65536 in
set_option maxHeartbeats 4000000 in
theorem k_lowestBit_ok  {s : S} : ∀ (v1 : Int64)   (o : Int32), k_lowestBit v1 = o → Go PP m7 0 [.val (.ref 1), .val (.long v1), .second, .unset, .unset, .unset] [] (none, [(8, s)]) (some (.int o), (none, [(8, s)])) := by
  intro v1 o hf
  unfold k_lowestBit at hf
  refine go_lloadN (pc := 0) d7_0 rfl (go_lconst (pc := 1) d7_1 cl_0 (go_lcmp (pc := 2) d7_2 ?_))
  by_cases h1 : v1 = (0 : Int64)
  · replace hf := (if_pos h1).symm.trans hf
    refine go_ifN (pc := 3) d7_3 (XT.ll_ne_f h1) ?_
    refine go_iconst (pc := 6) d7_6 ci_m1 ?_
    cases hf
    exact go_iret (pc := 7) rfl d7_7
  · replace hf := (if_neg h1).symm.trans hf
    refine go_ifY (pc := 3) (pc' := 8) d7_3 (XT.ll_ne_t h1) j_3_5 ?_
    refine go_iconst (pc := 8) d7_8 ci_0 (go_istoreN (pc := 9) (L' := [.val (.ref 1), .val (.long v1), .second, .val (.int (0 : Int32)), .unset, .unset]) d7_9 rfl (go_lloadN (pc := 10) d7_10 rfl (go_lstore (pc := 11) (L' := [.val (.ref 1), .val (.long v1), .second, .val (.int (0 : Int32)), .val (.long v1), .second]) d7_11 rfl (go_lload (pc := 13) d7_13 rfl (go_ldc2 (pc := 15) (u := (4294967295 : Int64)) d7_15 (List.mem_of_getElem? (i := 97) rfl) (go_land (pc := 18) d7_18 (go_lconst (pc := 19) d7_19 cl_0 ?_)))))))
    refine go_lcmp (pc := 20) d7_20 ?_
    by_cases h2 : (v1 &&& (4294967295 : Int64)) = (0 : Int64)
    · refine go_ifN (pc := 21) d7_21 (XT.ll_ne_f h2) ?_
      refine go_iinc (pc := 24) (L' := [.val (.ref 1), .val (.long v1), .second, .val (.int ((0 : Int32) + (32 : Int32))), .val (.long v1), .second]) d7_24 rfl ci_32 rfl (go_lload (pc := 27) d7_27 rfl (go_bipush (pc := 29) d7_29 cb_32 (go_lushr (pc := 31) d7_31 (go_lstore (pc := 32) (L' := [.val (.ref 1), .val (.long v1), .second, .val (.int ((0 : Int32) + (32 : Int32))), .val (.long (XT.ushrL v1 (32 : Int32))), .second]) d7_32 rfl ?_))))
      exact k_lowestBit_34_ok ((0 : Int32) + (32 : Int32)) (XT.ushrL v1 (32 : Int32)) (.val (.long v1)) .second (Or.inr ⟨_, rfl, rfl⟩) _ (by simpa only [if_pos h2] using hf)
    · refine go_ifY (pc := 21) (pc' := 34) d7_21 (XT.ll_ne_t h2) j_21_13 ?_
      exact k_lowestBit_34_ok (0 : Int32) v1 (.val (.long v1)) .second (Or.inr ⟨_, rfl, rfl⟩) _ (by simpa only [if_neg h2] using hf)
theorem c_k_lowestBit (v1 : Int64) (s : S) : Call PP m7 [.ref 1, .long v1] (none, [(8, s)]) (some (.int (k_lowestBit v1)), (none, [(8, s)])) := call_of_go pl_0 rfl (fun h => nomatch h) (k_lowestBit_ok v1   _ rfl)
set_option maxRecDepth 65536 in
set_option maxHeartbeats 4000000 in
theorem k_frameInRange_ok  : ∀ (v1 : Int32) (s : S)  (o : Int32), k_frameInRange v1 s = o → Go PP m8 0 [.val (.ref 1), .val (.int v1)] [] (none, [(8, s)]) (some (.int o), (none, [(8, s)])) := by
  intro v1 s o hf
  unfold k_frameInRange at hf
  refine go_iloadN (pc := 0) d8_0 rfl ?_
  by_cases h1 : v1 < 0
  · replace hf := (if_pos h1).symm.trans hf
    refine go_ifY (pc := 1) (pc' := 16) d8_1 (XT.i0_lt_t h1) j_1_15 ?_
    refine go_iconst (pc := 16) d8_16 ci_0 ?_
    cases hf
    exact go_zret (pc := 17) rfl d8_17 (show (0 : Int32) = nar .boolean (0 : Int32) by decide)
  · replace hf := (if_neg h1).symm.trans hf
    refine go_ifN (pc := 1) d8_1 (XT.i0_lt_f h1) ?_
    refine go_iloadN (pc := 4) d8_4 rfl (go_aloadN (pc := 5) d8_5 rfl (go_getI (pc := 6) fs_40 hm_8 d8_6 ?_))
    by_cases h2 : v1 < (gI s 0)
    · replace hf := (if_pos h2).symm.trans hf
      refine go_icN (pc := 9) d8_9 (XT.ii_ge_f h2) ?_
      refine go_iconst (pc := 12) d8_12 ci_1 (go_goto (pc := 13) (pc' := 17) d8_13 j_13_4 ?_)
      cases hf
      exact go_zret (pc := 17) rfl d8_17 (show (1 : Int32) = nar .boolean (1 : Int32) by decide)
    · replace hf := (if_neg h2).symm.trans hf
      refine go_icY (pc := 9) (pc' := 16) d8_9 (XT.ii_ge_t h2) j_9_7 ?_
      refine go_iconst (pc := 16) d8_16 ci_0 ?_
      cases hf
      exact go_zret (pc := 17) rfl d8_17 (show (0 : Int32) = nar .boolean (0 : Int32) by decide)
theorem c_k_frameInRange (v1 : Int32) (s : S) : Call PP m8 [.ref 1, .int v1] (none, [(8, s)]) (some (.int (k_frameInRange v1 s)), (none, [(8, s)])) := call_of_go pl_0 rfl (fun h => nomatch h) (k_frameInRange_ok v1 s   _ rfl)
set_option maxRecDepth 65536 in
set_option maxHeartbeats 4000000 in
theorem k_bitOf_10_ok  {s : S} : ∀   (x1 : Slot) (hx1 : k1 x1) (o : Int64), k_bitOf_10 = o → Go PP m9 10 [.val (.ref 1), x1] [] (none, [(8, s)]) (some (.long o), (none, [(8, s)])) := by
  intro x1 hx1 o hf
  unfold k_bitOf_10 at hf
  refine go_lconst (pc := 10) d9_10 cl_0 ?_
  cases hf
  exact go_lret (pc := 11) rfl d9_11
set_option maxRecDepth 65536 in
set_option maxHeartbeats 4000000 in
theorem k_bitOf_ok  {s : S} : ∀ (v1 : Int32)   (o : Int64), k_bitOf v1 = o → Go PP m9 0 [.val (.ref 1), .val (.int v1)] [] (none, [(8, s)]) (some (.long o), (none, [(8, s)])) := by
  intro v1 o hf
  unfold k_bitOf at hf
  refine go_iloadN (pc := 0) d9_0 rfl ?_
  by_cases h1 : v1 < 0
  · replace hf := (if_pos h1).symm.trans hf
    refine go_ifY (pc := 1) (pc' := 10) d9_1 (XT.i0_lt_t h1) j_1_9 ?_
    exact k_bitOf_10_ok (.val (.int v1)) (Or.inr ⟨_, rfl, rfl⟩) _ hf
  · replace hf := (if_neg h1).symm.trans hf
    refine go_ifN (pc := 1) d9_1 (XT.i0_lt_f h1) ?_
    refine go_iloadN (pc := 4) d9_4 rfl (go_bipush (pc := 5) d9_5 cb_63 ?_)
    by_cases h2 : (63 : Int32) < v1
    · replace hf := (if_pos h2).symm.trans hf
      refine go_icN (pc := 7) d9_7 (XT.ii_le_f h2) ?_
      exact k_bitOf_10_ok (.val (.int v1)) (Or.inr ⟨_, rfl, rfl⟩) _ hf
    · replace hf := (if_neg h2).symm.trans hf
      refine go_icY (pc := 7) (pc' := 12) d9_7 (XT.ii_le_t h2) j_7_5 ?_
      refine go_lconst (pc := 12) d9_12 cl_1 (go_iloadN (pc := 13) d9_13 rfl (go_lshl (pc := 14) d9_14 ?_))
      cases hf
      exact go_lret (pc := 15) rfl d9_15
theorem c_k_bitOf (v1 : Int32) (s : S) : Call PP m9 [.ref 1, .int v1] (none, [(8, s)]) (some (.long (k_bitOf v1)), (none, [(8, s)])) := call_of_go pl_0 rfl (fun h => nomatch h) (k_bitOf_ok v1   _ rfl)
set_option maxRecDepth 65536 in
set_option maxHeartbeats 4000000 in
theorem k_enterState_134_ok  : ∀ (v1 : Int32) (v2 : Int32) (s : S) (x3 : Slot) (x4 : Slot) (hx3 : k2 x3 x4) (o : S), k_enterState_134 v1 v2 s = some o → Go PP m10 134 [.val (.ref 1), .val (.int v1), .val (.int v2), x3, x4] [] (none, [(8, s)]) (none, (none, [(8, o)])) := by
  intro v1 v2 s x3 x4 hx3 o hf
  unfold k_enterState_134 at hf
  refine go_aloadN (pc := 134) d10_134 rfl (go_getA (pc := 135) fa_7 hm_10 d10_135 rfl (go_iloadN (pc := 138) d10_138 rfl (go_iloadN (pc := 139) d10_139 rfl (go_i2b (pc := 140) d10_140 ?_))))
  obtain ⟨a141, e1, hf⟩ := Option.bind_eq_some_iff.mp hf
  refine go_bastore (pc := 141) (q := 0) ar_0 (by decide) rfl hn_10 rfl e1 d10_141 ?_
  refine go_aloadN (pc := 142) d10_142 rfl (go_iconst (pc := 143) d10_143 ci_1 (go_putZ (pc := 144) fs_141 hm_10 (wr_6 _) hn_10 (by decide) d10_144 ?_))
  cases hf
  exact go_ret (pc := 147) rfl d10_147
set_option maxRecDepth 65536 in
set_option maxHeartbeats 4000000 in
theorem k_enterState_ok  : ∀ (v1 : Int32) (v2 : Int32) (s : S)  (o : S), k_enterState v1 v2 s = some o → Go PP m10 0 [.val (.ref 1), .val (.int v1), .val (.int v2), .unset, .unset] [] (none, [(8, s)]) (none, (none, [(8, o)])) := by
  intro v1 v2 s o hf
  unfold k_enterState at hf
  refine go_aloadN (pc := 0) d10_0 rfl (go_iloadN (pc := 1) d10_1 rfl ?_)
  refine go_priv (pc := 2) (i := 0) (as := [.int v1]) (rest := []) (w' := (none, [(8, s)])) lk_0_62 pd_8 rfl oid_0 rfl rfl rfl rfl rfl rfl ⟨rfl, rfl, rfl, rfl, rfl⟩ d10_2 (c_k_frameInRange v1 s) ?_
  by_cases h1 : (k_frameInRange v1 s) = 0
  · replace hf := (if_pos h1).symm.trans hf
    refine go_ifN (pc := 5) d10_5 (XT.i0_ne_f h1) ?_
    cases hf
    exact go_ret (pc := 8) rfl d10_8
  · replace hf := (if_neg h1).symm.trans hf
    refine go_ifY (pc := 5) (pc' := 9) d10_5 (XT.i0_ne_t h1) j_5_4 ?_
    refine go_aloadN (pc := 9) d10_9 rfl (go_iloadN (pc := 10) d10_10 rfl ?_)
    refine go_priv (pc := 11) (i := 0) (as := [.int v1]) (rest := []) (w' := (none, [(8, s)])) lk_0_145 pd_9 rfl oid_0 rfl rfl rfl rfl rfl rfl ⟨rfl, rfl, rfl, rfl, rfl⟩ d10_11 (c_k_bitOf v1 s) ?_
    refine go_lstoreN (pc := 14) (L' := [.val (.ref 1), .val (.int v1), .val (.int v2), .val (.long (k_bitOf v1)), .second]) d10_14 rfl (go_aloadN (pc := 15) d10_15 rfl (go_aloadN (pc := 16) d10_16 rfl (go_getJ (pc := 17) fs_54 hm_10 d10_17 (go_lloadN (pc := 20) d10_20 rfl (go_ldc2 (pc := 21) (u := (-1 : Int64)) d10_21 (List.mem_of_getElem? (i := 110) rfl) (go_lxor (pc := 24) d10_24 (go_land (pc := 25) d10_25 ?_)))))))
    refine go_putJ (pc := 26) fs_54 hm_10 (wr_2 _) hn_10 d10_26 (go_aloadN (pc := 29) d10_29 rfl (go_aloadN (pc := 30) d10_30 rfl (go_getJ (pc := 31) fs_132 hm_10 d10_31 (go_lloadN (pc := 34) d10_34 rfl (go_ldc2 (pc := 35) (u := (-1 : Int64)) d10_35 (List.mem_of_getElem? (i := 110) rfl) (go_lxor (pc := 38) d10_38 (go_land (pc := 39) d10_39 ?_)))))))
    refine go_putJ (pc := 40) fs_132 hm_10 (wr_3 _) hn_10 d10_40 (go_aloadN (pc := 43) d10_43 rfl (go_aloadN (pc := 44) d10_44 rfl (go_getJ (pc := 45) fs_135 hm_10 d10_45 (go_lloadN (pc := 48) d10_48 rfl (go_ldc2 (pc := 49) (u := (-1 : Int64)) d10_49 (List.mem_of_getElem? (i := 110) rfl) (go_lxor (pc := 52) d10_52 (go_land (pc := 53) d10_53 ?_)))))))
    refine go_putJ (pc := 54) fs_135 hm_10 (wr_4 _) hn_10 d10_54 (go_aloadN (pc := 57) d10_57 rfl (go_aloadN (pc := 58) d10_58 rfl (go_getJ (pc := 59) fs_138 hm_10 d10_59 (go_lloadN (pc := 62) d10_62 rfl (go_ldc2 (pc := 63) (u := (-1 : Int64)) d10_63 (List.mem_of_getElem? (i := 110) rfl) (go_lxor (pc := 66) d10_66 (go_land (pc := 67) d10_67 ?_)))))))
    refine go_putJ (pc := 68) fs_138 hm_10 (wr_5 _) hn_10 d10_68 (go_iloadN (pc := 71) d10_71 rfl ?_)
    by_cases h2 : v2 = 0
    · replace hf := (if_pos h2).symm.trans hf
      refine go_ifN (pc := 72) d10_72 (XT.i0_ne_f h2) ?_
      refine go_aloadN (pc := 75) d10_75 rfl (go_aloadN (pc := 76) d10_76 rfl (go_getJ (pc := 77) fs_54 hm_10 d10_77 (go_lloadN (pc := 80) d10_80 rfl (go_lor (pc := 81) d10_81 (go_putJ (pc := 82) fs_54 hm_10 (wr_2 _) hn_10 d10_82 (go_goto (pc := 85) (pc' := 134) d10_85 j_85_49 ?_))))))
      exact k_enterState_134_ok v1 v2 (sL (sL (sL (sL (sL s 2 ((gL s 2) &&& ((k_bitOf v1) ^^^ (-1 : Int64)))) 3 ((gL s 3) &&& ((k_bitOf v1) ^^^ (-1 : Int64)))) 4 ((gL s 4) &&& ((k_bitOf v1) ^^^ (-1 : Int64)))) 5 ((gL s 5) &&& ((k_bitOf v1) ^^^ (-1 : Int64)))) 2 (((gL s 2) &&& ((k_bitOf v1) ^^^ (-1 : Int64))) ||| (k_bitOf v1))) (.val (.long (k_bitOf v1))) .second (Or.inr ⟨_, rfl, rfl⟩) _ hf
    · replace hf := (if_neg h2).symm.trans hf
      refine go_ifY (pc := 72) (pc' := 88) d10_72 (XT.i0_ne_t h2) j_72_16 ?_
      refine go_iloadN (pc := 88) d10_88 rfl (go_iconst (pc := 89) d10_89 ci_1 ?_)
      by_cases h3 : v2 = (1 : Int32)
      · replace hf := (if_pos h3).symm.trans hf
        refine go_icN (pc := 90) d10_90 (XT.ii_ne_f h3) ?_
        refine go_aloadN (pc := 93) d10_93 rfl (go_aloadN (pc := 94) d10_94 rfl (go_getJ (pc := 95) fs_132 hm_10 d10_95 (go_lloadN (pc := 98) d10_98 rfl (go_lor (pc := 99) d10_99 (go_putJ (pc := 100) fs_132 hm_10 (wr_3 _) hn_10 d10_100 (go_goto (pc := 103) (pc' := 134) d10_103 j_103_31 ?_))))))
        exact k_enterState_134_ok v1 v2 (sL (sL (sL (sL (sL s 2 ((gL s 2) &&& ((k_bitOf v1) ^^^ (-1 : Int64)))) 3 ((gL s 3) &&& ((k_bitOf v1) ^^^ (-1 : Int64)))) 4 ((gL s 4) &&& ((k_bitOf v1) ^^^ (-1 : Int64)))) 5 ((gL s 5) &&& ((k_bitOf v1) ^^^ (-1 : Int64)))) 3 (((gL s 3) &&& ((k_bitOf v1) ^^^ (-1 : Int64))) ||| (k_bitOf v1))) (.val (.long (k_bitOf v1))) .second (Or.inr ⟨_, rfl, rfl⟩) _ hf
      · replace hf := (if_neg h3).symm.trans hf
        refine go_icY (pc := 90) (pc' := 106) d10_90 (XT.ii_ne_t h3) j_90_16 ?_
        refine go_iloadN (pc := 106) d10_106 rfl (go_iconst (pc := 107) d10_107 ci_2 ?_)
        by_cases h4 : v2 = (2 : Int32)
        · replace hf := (if_pos h4).symm.trans hf
          refine go_icN (pc := 108) d10_108 (XT.ii_ne_f h4) ?_
          refine go_aloadN (pc := 111) d10_111 rfl (go_aloadN (pc := 112) d10_112 rfl (go_getJ (pc := 113) fs_135 hm_10 d10_113 (go_lloadN (pc := 116) d10_116 rfl (go_lor (pc := 117) d10_117 (go_putJ (pc := 118) fs_135 hm_10 (wr_4 _) hn_10 d10_118 (go_goto (pc := 121) (pc' := 134) d10_121 j_121_13 ?_))))))
          exact k_enterState_134_ok v1 v2 (sL (sL (sL (sL (sL s 2 ((gL s 2) &&& ((k_bitOf v1) ^^^ (-1 : Int64)))) 3 ((gL s 3) &&& ((k_bitOf v1) ^^^ (-1 : Int64)))) 4 ((gL s 4) &&& ((k_bitOf v1) ^^^ (-1 : Int64)))) 5 ((gL s 5) &&& ((k_bitOf v1) ^^^ (-1 : Int64)))) 4 (((gL s 4) &&& ((k_bitOf v1) ^^^ (-1 : Int64))) ||| (k_bitOf v1))) (.val (.long (k_bitOf v1))) .second (Or.inr ⟨_, rfl, rfl⟩) _ hf
        · replace hf := (if_neg h4).symm.trans hf
          refine go_icY (pc := 108) (pc' := 124) d10_108 (XT.ii_ne_t h4) j_108_16 ?_
          refine go_aloadN (pc := 124) d10_124 rfl (go_aloadN (pc := 125) d10_125 rfl (go_getJ (pc := 126) fs_138 hm_10 d10_126 (go_lloadN (pc := 129) d10_129 rfl (go_lor (pc := 130) d10_130 (go_putJ (pc := 131) fs_138 hm_10 (wr_5 _) hn_10 d10_131 ?_)))))
          exact k_enterState_134_ok v1 v2 (sL (sL (sL (sL (sL s 2 ((gL s 2) &&& ((k_bitOf v1) ^^^ (-1 : Int64)))) 3 ((gL s 3) &&& ((k_bitOf v1) ^^^ (-1 : Int64)))) 4 ((gL s 4) &&& ((k_bitOf v1) ^^^ (-1 : Int64)))) 5 ((gL s 5) &&& ((k_bitOf v1) ^^^ (-1 : Int64)))) 5 (((gL s 5) &&& ((k_bitOf v1) ^^^ (-1 : Int64))) ||| (k_bitOf v1))) (.val (.long (k_bitOf v1))) .second (Or.inr ⟨_, rfl, rfl⟩) _ hf
theorem c_k_enterState (v1 : Int32) (v2 : Int32) (s : S) (o : S) (hf : k_enterState v1 v2 s = some o) : Call PP m10 [.ref 1, .int v1, .int v2] (none, [(8, s)]) (none, (none, [(8, o)])) := call_of_go pl_0 rfl (fun _ => rfl) (k_enterState_ok v1 v2 s   _ hf)
set_option maxRecDepth 65536 in
set_option maxHeartbeats 4000000 in
theorem k_rmapLink_38_ok  : ∀ (v1 : Int32) (v2 : Int32) (s : S) (x3 : Slot) (hx3 : k1 x3) (o : S), k_rmapLink_38 v1 v2 s = some o → Go PP m11 38 [.val (.ref 1), .val (.int v1), .val (.int v2), x3] [] (none, [(8, s)]) (none, (none, [(8, o)])) := by
  intro v1 v2 s x3 hx3 o hf
  unfold k_rmapLink_38 at hf
  refine go_aloadN (pc := 38) d11_38 rfl (go_getA (pc := 39) fa_23 hm_11 d11_39 rfl (go_iloadN (pc := 42) d11_42 rfl (go_iloadN (pc := 43) d11_43 rfl ?_)))
  obtain ⟨a44, e1, hf⟩ := Option.bind_eq_some_iff.mp hf
  refine go_iastore (pc := 44) (q := 4) ar_4 rfl hn_11 e1 d11_44 ?_
  refine go_aloadN (pc := 45) d11_45 rfl (go_getA (pc := 46) fa_20 hm_11 d11_46 rfl (go_iloadN (pc := 49) d11_49 rfl (go_iloadN (pc := 50) d11_50 rfl ?_)))
  obtain ⟨a51, e2, hf⟩ := Option.bind_eq_some_iff.mp hf
  refine go_iastore (pc := 51) (q := 3) ar_3 rfl hn_11 e2 d11_51 ?_
  cases hf
  exact go_ret (pc := 52) rfl d11_52
set_option maxRecDepth 65536 in
set_option maxHeartbeats 4000000 in
theorem k_rmapLink_ok  : ∀ (v1 : Int32) (v2 : Int32) (s : S)  (o : S), k_rmapLink v1 v2 s = some o → Go PP m11 0 [.val (.ref 1), .val (.int v1), .val (.int v2), .unset] [] (none, [(8, s)]) (none, (none, [(8, o)])) := by
  intro v1 v2 s o hf
  unfold k_rmapLink at hf
  refine go_aloadN (pc := 0) d11_0 rfl (go_getA (pc := 1) fa_23 hm_11 d11_1 rfl (go_iloadN (pc := 4) d11_4 rfl ?_))
  obtain ⟨a5, e1, hf⟩ := Option.bind_eq_some_iff.mp hf
  refine go_iaload (pc := 5) (q := 4) ar_4 rfl e1 d11_5 ?_
  refine go_istoreN (pc := 6) (L' := [.val (.ref 1), .val (.int v1), .val (.int v2), .val (.int a5)]) d11_6 rfl (go_aloadN (pc := 7) d11_7 rfl (go_getA (pc := 8) fa_29 hm_11 d11_8 rfl (go_iloadN (pc := 11) d11_11 rfl (go_iconst (pc := 12) d11_12 ci_m1 ?_))))
  obtain ⟨a13, e2, hf⟩ := Option.bind_eq_some_iff.mp hf
  refine go_iastore (pc := 13) (q := 6) ar_6 rfl hn_11 e2 d11_13 ?_
  refine go_aloadN (pc := 14) d11_14 rfl (go_getA (pc := 15) fa_26 hm_11 d11_15 rfl (go_iloadN (pc := 18) d11_18 rfl (go_iloadN (pc := 19) d11_19 rfl ?_)))
  obtain ⟨a20, e3, hf⟩ := Option.bind_eq_some_iff.mp hf
  refine go_iastore (pc := 20) (q := 5) ar_5 rfl hn_11 e3 d11_20 ?_
  refine go_iloadN (pc := 21) d11_21 rfl ?_
  by_cases h4 : a5 < 0
  · replace hf := (if_pos h4).symm.trans hf
    refine go_ifY (pc := 22) (pc' := 38) d11_22 (XT.i0_lt_t h4) j_22_16 ?_
    exact k_rmapLink_38_ok v1 v2 (sA (sA s 6 a13) 5 a20) (.val (.int a5)) (Or.inr ⟨_, rfl, rfl⟩) _ hf
  · replace hf := (if_neg h4).symm.trans hf
    refine go_ifN (pc := 22) d11_22 (XT.i0_lt_f h4) ?_
    refine go_iloadN (pc := 25) d11_25 rfl (go_bipush (pc := 26) d11_26 cb_64 ?_)
    by_cases h5 : a5 < (64 : Int32)
    · replace hf := (if_pos h5).symm.trans hf
      refine go_icN (pc := 28) d11_28 (XT.ii_ge_f h5) ?_
      refine go_aloadN (pc := 31) d11_31 rfl (go_getA (pc := 32) fa_29 hm_11 d11_32 rfl (go_iloadN (pc := 35) d11_35 rfl (go_iloadN (pc := 36) d11_36 rfl ?_)))
      obtain ⟨a37, e6, hf⟩ := Option.bind_eq_some_iff.mp hf
      refine go_iastore (pc := 37) (q := 6) ar_6 rfl hn_11 e6 d11_37 ?_
      exact k_rmapLink_38_ok v1 v2 (sA (sA (sA s 6 a13) 5 a20) 6 a37) (.val (.int a5)) (Or.inr ⟨_, rfl, rfl⟩) _ hf
    · replace hf := (if_neg h5).symm.trans hf
      refine go_icY (pc := 28) (pc' := 38) d11_28 (XT.ii_ge_t h5) j_28_10 ?_
      exact k_rmapLink_38_ok v1 v2 (sA (sA s 6 a13) 5 a20) (.val (.int a5)) (Or.inr ⟨_, rfl, rfl⟩) _ hf
theorem c_k_rmapLink (v1 : Int32) (v2 : Int32) (s : S) (o : S) (hf : k_rmapLink v1 v2 s = some o) : Call PP m11 [.ref 1, .int v1, .int v2] (none, [(8, s)]) (none, (none, [(8, o)])) := call_of_go pl_0 rfl (fun _ => rfl) (k_rmapLink_ok v1 v2 s   _ hf)
set_option maxRecDepth 65536 in
set_option maxHeartbeats 4000000 in
theorem k_attachPage_ok  : ∀ (v1 : Int32) (v2 : Int32) (s : S)  (o : S), k_attachPage v1 v2 s = some o → Go PP m12 0 [.val (.ref 1), .val (.int v1), .val (.int v2)] [] (none, [(8, s)]) (none, (none, [(8, o)])) := by
  intro v1 v2 s o hf
  unfold k_attachPage at hf
  refine go_iloadN (pc := 0) d12_0 rfl ?_
  by_cases h1 : v1 < 0
  · replace hf := (if_pos h1).symm.trans hf
    refine go_ifY (pc := 1) (pc' := 18) d12_1 (XT.i0_lt_t h1) j_1_17 ?_
    cases hf
    exact go_ret (pc := 18) rfl d12_18
  · replace hf := (if_neg h1).symm.trans hf
    refine go_ifN (pc := 1) d12_1 (XT.i0_lt_f h1) ?_
    refine go_iloadN (pc := 4) d12_4 rfl (go_bipush (pc := 5) d12_5 cb_64 ?_)
    by_cases h2 : v1 < (64 : Int32)
    · replace hf := (if_pos h2).symm.trans hf
      refine go_icN (pc := 7) d12_7 (XT.ii_ge_f h2) ?_
      refine go_aloadN (pc := 10) d12_10 rfl (go_iloadN (pc := 11) d12_11 rfl ?_)
      refine go_priv (pc := 12) (i := 0) (as := [.int v2]) (rest := []) (w' := (none, [(8, s)])) lk_0_62 pd_8 rfl oid_0 rfl rfl rfl rfl rfl rfl ⟨rfl, rfl, rfl, rfl, rfl⟩ d12_12 (c_k_frameInRange v2 s) ?_
      by_cases h3 : (k_frameInRange v2 s) = 0
      · replace hf := (if_pos h3).symm.trans hf
        refine go_ifN (pc := 15) d12_15 (XT.i0_ne_f h3) ?_
        cases hf
        exact go_ret (pc := 18) rfl d12_18
      · replace hf := (if_neg h3).symm.trans hf
        refine go_ifY (pc := 15) (pc' := 19) d12_15 (XT.i0_ne_t h3) j_15_4 ?_
        refine go_aloadN (pc := 19) d12_19 rfl (go_iloadN (pc := 20) d12_20 rfl (go_iloadN (pc := 21) d12_21 rfl ?_))
        obtain ⟨r22, e4, hf⟩ := Option.bind_eq_some_iff.mp hf
        refine go_priv (pc := 22) (i := 0) (as := [.int v1, .int v2]) (rest := []) (w' := (none, [(8, r22)])) lk_0_153 pd_11 rfl oid_0 rfl rfl rfl rfl rfl rfl ⟨rfl, rfl, rfl, rfl, rfl⟩ d12_22 (c_k_rmapLink v1 v2 s _ e4) ?_
        refine go_aloadN (pc := 25) d12_25 rfl (go_getA (pc := 26) fa_17 hm_12 d12_26 rfl (go_iloadN (pc := 29) d12_29 rfl (go_aloadN (pc := 30) d12_30 rfl (go_getA (pc := 31) fa_17 hm_12 d12_31 rfl (go_iloadN (pc := 34) d12_34 rfl ?_)))))
        obtain ⟨a35, e5, hf⟩ := Option.bind_eq_some_iff.mp hf
        refine go_iaload (pc := 35) (q := 2) ar_2 rfl e5 d12_35 ?_
        refine go_iconst (pc := 36) d12_36 ci_1 (go_iadd (pc := 37) d12_37 ?_)
        obtain ⟨a38, e6, hf⟩ := Option.bind_eq_some_iff.mp hf
        refine go_iastore (pc := 38) (q := 2) ar_2 rfl hn_12 e6 d12_38 ?_
        cases hf
        exact go_ret (pc := 39) rfl d12_39
    · replace hf := (if_neg h2).symm.trans hf
      refine go_icY (pc := 7) (pc' := 18) d12_7 (XT.ii_ge_t h2) j_7_11 ?_
      cases hf
      exact go_ret (pc := 18) rfl d12_18
theorem c_k_attachPage (v1 : Int32) (v2 : Int32) (s : S) (o : S) (hf : k_attachPage v1 v2 s = some o) : Call PP m12 [.ref 1, .int v1, .int v2] (none, [(8, s)]) (none, (none, [(8, o)])) := call_of_go pl_0 rfl (fun _ => rfl) (k_attachPage_ok v1 v2 s   _ hf)
set_option maxRecDepth 65536 in
set_option maxHeartbeats 4000000 in
theorem k_mapNew_ok  : ∀ (v1 : Int32) (v2 : Int32) (v3 : Int32) (s : S)  (o : Int32 × S), k_mapNew v1 v2 v3 s = some o → Go PP m13 0 [.val (.ref 1), .val (.int v1), .val (.int v2), .val (.int v3), .unset, .unset, .unset] [] (none, [(8, s)]) (some (.int o.1), (none, [(8, o.2)])) := by
  intro v1 v2 v3 s o hf
  unfold k_mapNew at hf
  refine go_aloadN (pc := 0) d13_0 rfl (go_iloadN (pc := 1) d13_1 rfl (go_iloadN (pc := 2) d13_2 rfl ?_))
  obtain ⟨r3, e1, hf⟩ := Option.bind_eq_some_iff.mp hf
  refine go_priv (pc := 3) (i := 0) (as := [.int v1, .int v2]) (rest := []) (w' := (none, [(8, s)])) lk_0_50 pd_6 rfl oid_0 rfl rfl rfl rfl rfl rfl ⟨rfl, rfl, rfl, rfl, rfl⟩ d13_3 (c_k_checkTarget v1 v2 s _ e1) ?_
  refine go_istore (pc := 6) (L' := [.val (.ref 1), .val (.int v1), .val (.int v2), .val (.int v3), .val (.int r3), .unset, .unset]) d13_6 rfl (go_iload (pc := 8) d13_8 rfl ?_)
  by_cases h2 : r3 = 0
  · replace hf := (if_pos h2).symm.trans hf
    refine go_ifY (pc := 10) (pc' := 16) d13_10 (XT.i0_eq_t h2) j_10_6 ?_
    refine go_aloadN (pc := 16) d13_16 rfl (go_getJ (pc := 17) fs_54 hm_13 d13_17 (go_lconst (pc := 20) d13_20 cl_0 (go_lcmp (pc := 21) d13_21 ?_)))
    by_cases h3 : (gL s 2) = (0 : Int64)
    · replace hf := (if_pos h3).symm.trans hf
      refine go_ifN (pc := 22) d13_22 (XT.ll_ne_f h3) ?_
      refine go_bipush (pc := 25) d13_25 cb_m4 ?_
      cases hf
      exact go_iret (pc := 27) rfl d13_27
    · replace hf := (if_neg h3).symm.trans hf
      refine go_ifY (pc := 22) (pc' := 28) d13_22 (XT.ll_ne_t h3) j_22_6 ?_
      refine go_aloadN (pc := 28) d13_28 rfl (go_aloadN (pc := 29) d13_29 rfl (go_getJ (pc := 30) fs_54 hm_13 d13_30 ?_))
      refine go_priv (pc := 33) (i := 0) (as := [.long (gL s 2)]) (rest := []) (w' := (none, [(8, s)])) lk_0_58 pd_7 rfl oid_0 rfl rfl rfl rfl rfl rfl ⟨rfl, rfl, rfl, rfl, rfl⟩ d13_33 (c_k_lowestBit (gL s 2) s) ?_
      refine go_istore (pc := 36) (L' := [.val (.ref 1), .val (.int v1), .val (.int v2), .val (.int v3), .val (.int r3), .val (.int (k_lowestBit (gL s 2))), .unset]) d13_36 rfl (go_aloadN (pc := 38) d13_38 rfl (go_iload (pc := 39) d13_39 rfl ?_))
      refine go_priv (pc := 41) (i := 0) (as := [.int (k_lowestBit (gL s 2))]) (rest := []) (w' := (none, [(8, s)])) lk_0_62 pd_8 rfl oid_0 rfl rfl rfl rfl rfl rfl ⟨rfl, rfl, rfl, rfl, rfl⟩ d13_41 (c_k_frameInRange (k_lowestBit (gL s 2)) s) ?_
      by_cases h4 : (k_frameInRange (k_lowestBit (gL s 2)) s) = 0
      · replace hf := (if_pos h4).symm.trans hf
        refine go_ifN (pc := 44) d13_44 (XT.i0_ne_f h4) ?_
        refine go_bipush (pc := 47) d13_47 cb_m4 ?_
        cases hf
        exact go_iret (pc := 49) rfl d13_49
      · replace hf := (if_neg h4).symm.trans hf
        refine go_ifY (pc := 44) (pc' := 50) d13_44 (XT.i0_ne_t h4) j_44_6 ?_
        refine go_aloadN (pc := 50) d13_50 rfl (go_iloadN (pc := 51) d13_51 rfl (go_iloadN (pc := 52) d13_52 rfl ?_))
        refine go_priv (pc := 53) (i := 0) (as := [.int v1, .int v2]) (rest := []) (w' := (none, [(8, s)])) lk_0_66 pd_5 rfl oid_0 rfl rfl rfl rfl rfl rfl ⟨rfl, rfl, rfl, rfl, rfl⟩ d13_53 (c_k_slotOf v1 v2 s) ?_
        refine go_istore (pc := 56) (L' := [.val (.ref 1), .val (.int v1), .val (.int v2), .val (.int v3), .val (.int r3), .val (.int (k_lowestBit (gL s 2))), .val (.int (k_slotOf v1 v2))]) d13_56 rfl (go_aloadN (pc := 58) d13_58 rfl (go_iload (pc := 59) d13_59 rfl (go_iconst (pc := 61) d13_61 ci_1 ?_)))
        obtain ⟨r62, e5, hf⟩ := Option.bind_eq_some_iff.mp hf
        refine go_priv (pc := 62) (i := 0) (as := [.int (k_lowestBit (gL s 2)), .int (1 : Int32)]) (rest := []) (w' := (none, [(8, r62)])) lk_0_69 pd_10 rfl oid_0 rfl rfl rfl rfl rfl rfl ⟨rfl, rfl, rfl, rfl, rfl⟩ d13_62 (c_k_enterState (k_lowestBit (gL s 2)) (1 : Int32) s _ e5) ?_
        refine go_aloadN (pc := 65) d13_65 rfl (go_getA (pc := 66) fa_13 hm_13 d13_66 rfl (go_iload (pc := 69) d13_69 rfl (go_iloadN (pc := 71) d13_71 rfl ?_)))
        obtain ⟨a72, e6, hf⟩ := Option.bind_eq_some_iff.mp hf
        refine go_iastore (pc := 72) (q := 1) ar_1 rfl hn_13 e6 d13_72 ?_
        refine go_aloadN (pc := 73) d13_73 rfl (go_getA (pc := 74) fa_17 hm_13 d13_74 rfl (go_iload (pc := 77) d13_77 rfl (go_iconst (pc := 79) d13_79 ci_0 ?_)))
        obtain ⟨a80, e7, hf⟩ := Option.bind_eq_some_iff.mp hf
        refine go_iastore (pc := 80) (q := 2) ar_2 rfl hn_13 e7 d13_80 ?_
        refine go_aloadN (pc := 81) d13_81 rfl (go_iload (pc := 82) d13_82 rfl (go_iload (pc := 84) d13_84 rfl ?_))
        obtain ⟨r86, e8, hf⟩ := Option.bind_eq_some_iff.mp hf
        refine go_priv (pc := 86) (i := 0) (as := [.int (k_slotOf v1 v2), .int (k_lowestBit (gL s 2))]) (rest := []) (w' := (none, [(8, r86)])) lk_0_73 pd_12 rfl oid_0 rfl rfl rfl rfl rfl rfl ⟨rfl, rfl, rfl, rfl, rfl⟩ d13_86 (c_k_attachPage (k_slotOf v1 v2) (k_lowestBit (gL s 2)) (sA (sA r62 1 a72) 2 a80) _ e8) ?_
        refine go_iload (pc := 89) d13_89 rfl ?_
        cases hf
        exact go_iret (pc := 91) rfl d13_91
  · replace hf := (if_neg h2).symm.trans hf
    refine go_ifN (pc := 10) d13_10 (XT.i0_eq_f h2) ?_
    refine go_iload (pc := 13) d13_13 rfl ?_
    cases hf
    exact go_iret (pc := 15) rfl d13_15
theorem c_k_mapNew (v1 : Int32) (v2 : Int32) (v3 : Int32) (s : S) (o : Int32 × S) (hf : k_mapNew v1 v2 v3 s = some o) : Call PP m13 [.ref 1, .int v1, .int v2, .int v3] (none, [(8, s)]) (some (.int o.1), (none, [(8, o.2)])) := call_of_go pl_0 rfl (fun h => nomatch h) (k_mapNew_ok v1 v2 v3 s   _ hf)
set_option maxRecDepth 65536 in
set_option maxHeartbeats 4000000 in
theorem k_share_ok  : ∀ (v1 : Int32) (v2 : Int32) (v3 : Int32) (v4 : Int32) (s : S)  (o : Int32 × S), k_share v1 v2 v3 v4 s = some o → Go PP m14 0 [.val (.ref 1), .val (.int v1), .val (.int v2), .val (.int v3), .val (.int v4), .unset, .unset, .unset] [] (none, [(8, s)]) (some (.int o.1), (none, [(8, o.2)])) := by
  intro v1 v2 v3 v4 s o hf
  unfold k_share at hf
  refine go_aloadN (pc := 0) d14_0 rfl (go_iloadN (pc := 1) d14_1 rfl (go_iloadN (pc := 2) d14_2 rfl ?_))
  refine go_priv (pc := 3) (i := 0) (as := [.int v1, .int v2]) (rest := []) (w' := (none, [(8, s)])) lk_0_76 pd_4 rfl oid_0 rfl rfl rfl rfl rfl rfl ⟨rfl, rfl, rfl, rfl, rfl⟩ d14_3 (c_k_pageInRange v1 v2 s) ?_
  by_cases h1 : (k_pageInRange v1 v2 s) = 0
  · replace hf := (if_pos h1).symm.trans hf
    refine go_ifN (pc := 6) d14_6 (XT.i0_ne_f h1) ?_
    refine go_iconst (pc := 9) d14_9 ci_m1 ?_
    cases hf
    exact go_iret (pc := 10) rfl d14_10
  · replace hf := (if_neg h1).symm.trans hf
    refine go_ifY (pc := 6) (pc' := 11) d14_6 (XT.i0_ne_t h1) j_6_5 ?_
    refine go_aloadN (pc := 11) d14_11 rfl (go_iloadN (pc := 12) d14_12 rfl (go_iload (pc := 13) d14_13 rfl ?_))
    refine go_priv (pc := 15) (i := 0) (as := [.int v3, .int v4]) (rest := []) (w' := (none, [(8, s)])) lk_0_76 pd_4 rfl oid_0 rfl rfl rfl rfl rfl rfl ⟨rfl, rfl, rfl, rfl, rfl⟩ d14_15 (c_k_pageInRange v3 v4 s) ?_
    by_cases h2 : (k_pageInRange v3 v4 s) = 0
    · replace hf := (if_pos h2).symm.trans hf
      refine go_ifN (pc := 18) d14_18 (XT.i0_ne_f h2) ?_
      refine go_iconst (pc := 21) d14_21 ci_m1 ?_
      cases hf
      exact go_iret (pc := 22) rfl d14_22
    · replace hf := (if_neg h2).symm.trans hf
      refine go_ifY (pc := 18) (pc' := 23) d14_18 (XT.i0_ne_t h2) j_18_5 ?_
      refine go_aloadN (pc := 23) d14_23 rfl (go_iloadN (pc := 24) d14_24 rfl (go_iloadN (pc := 25) d14_25 rfl ?_))
      refine go_priv (pc := 26) (i := 0) (as := [.int v1, .int v2]) (rest := []) (w' := (none, [(8, s)])) lk_0_66 pd_5 rfl oid_0 rfl rfl rfl rfl rfl rfl ⟨rfl, rfl, rfl, rfl, rfl⟩ d14_26 (c_k_slotOf v1 v2 s) ?_
      refine go_istore (pc := 29) (L' := [.val (.ref 1), .val (.int v1), .val (.int v2), .val (.int v3), .val (.int v4), .val (.int (k_slotOf v1 v2)), .unset, .unset]) d14_29 rfl (go_aloadN (pc := 31) d14_31 rfl (go_getA (pc := 32) fa_20 hm_14 d14_32 rfl (go_iload (pc := 35) d14_35 rfl ?_)))
      obtain ⟨a37, e3, hf⟩ := Option.bind_eq_some_iff.mp hf
      refine go_iaload (pc := 37) (q := 3) ar_3 rfl e3 d14_37 ?_
      by_cases h4 : a37 < 0
      · replace hf := (if_pos h4).symm.trans hf
        refine go_ifY (pc := 38) (pc' := 44) d14_38 (XT.i0_lt_t h4) j_38_6 ?_
        refine go_aloadN (pc := 44) d14_44 rfl (go_iloadN (pc := 45) d14_45 rfl (go_iload (pc := 46) d14_46 rfl ?_))
        refine go_priv (pc := 48) (i := 0) (as := [.int v3, .int v4]) (rest := []) (w' := (none, [(8, s)])) lk_0_66 pd_5 rfl oid_0 rfl rfl rfl rfl rfl rfl ⟨rfl, rfl, rfl, rfl, rfl⟩ d14_48 (c_k_slotOf v3 v4 s) ?_
        refine go_istore (pc := 51) (L' := [.val (.ref 1), .val (.int v1), .val (.int v2), .val (.int v3), .val (.int v4), .val (.int (k_slotOf v1 v2)), .val (.int (k_slotOf v3 v4)), .unset]) d14_51 rfl (go_aloadN (pc := 53) d14_53 rfl (go_getA (pc := 54) fa_20 hm_14 d14_54 rfl (go_iload (pc := 57) d14_57 rfl ?_)))
        obtain ⟨a59, e5, hf⟩ := Option.bind_eq_some_iff.mp hf
        refine go_iaload (pc := 59) (q := 3) ar_3 rfl e5 d14_59 ?_
        refine go_istore (pc := 60) (L' := [.val (.ref 1), .val (.int v1), .val (.int v2), .val (.int v3), .val (.int v4), .val (.int (k_slotOf v1 v2)), .val (.int (k_slotOf v3 v4)), .val (.int a59)]) d14_60 rfl (go_aloadN (pc := 62) d14_62 rfl (go_iload (pc := 63) d14_63 rfl ?_))
        refine go_priv (pc := 65) (i := 0) (as := [.int a59]) (rest := []) (w' := (none, [(8, s)])) lk_0_62 pd_8 rfl oid_0 rfl rfl rfl rfl rfl rfl ⟨rfl, rfl, rfl, rfl, rfl⟩ d14_65 (c_k_frameInRange a59 s) ?_
        by_cases h6 : (k_frameInRange a59 s) = 0
        · replace hf := (if_pos h6).symm.trans hf
          refine go_ifN (pc := 68) d14_68 (XT.i0_ne_f h6) ?_
          refine go_bipush (pc := 71) d14_71 cb_m3 ?_
          cases hf
          exact go_iret (pc := 73) rfl d14_73
        · replace hf := (if_neg h6).symm.trans hf
          refine go_ifY (pc := 68) (pc' := 74) d14_68 (XT.i0_ne_t h6) j_68_6 ?_
          refine go_aloadN (pc := 74) d14_74 rfl (go_iload (pc := 75) d14_75 rfl (go_iload (pc := 77) d14_77 rfl ?_))
          obtain ⟨r79, e7, hf⟩ := Option.bind_eq_some_iff.mp hf
          refine go_priv (pc := 79) (i := 0) (as := [.int (k_slotOf v1 v2), .int a59]) (rest := []) (w' := (none, [(8, r79)])) lk_0_73 pd_12 rfl oid_0 rfl rfl rfl rfl rfl rfl ⟨rfl, rfl, rfl, rfl, rfl⟩ d14_79 (c_k_attachPage (k_slotOf v1 v2) a59 s _ e7) ?_
          refine go_iload (pc := 82) d14_82 rfl ?_
          cases hf
          exact go_iret (pc := 84) rfl d14_84
      · replace hf := (if_neg h4).symm.trans hf
        refine go_ifN (pc := 38) d14_38 (XT.i0_lt_f h4) ?_
        refine go_bipush (pc := 41) d14_41 cb_m2 ?_
        cases hf
        exact go_iret (pc := 43) rfl d14_43
theorem c_k_share (v1 : Int32) (v2 : Int32) (v3 : Int32) (v4 : Int32) (s : S) (o : Int32 × S) (hf : k_share v1 v2 v3 v4 s = some o) : Call PP m14 [.ref 1, .int v1, .int v2, .int v3, .int v4] (none, [(8, s)]) (some (.int o.1), (none, [(8, o.2)])) := call_of_go pl_0 rfl (fun h => nomatch h) (k_share_ok v1 v2 v3 v4 s   _ hf)
set_option maxRecDepth 65536 in
set_option maxHeartbeats 4000000 in
theorem k_rmapUnlink_95_ok  : ∀ (v1 : Int32) (v2 : Int32) (s : S) (x3 : Slot) (x4 : Slot) (hx3 : k1 x3) (hx4 : k1 x4) (o : Int32 × S), k_rmapUnlink_95 v1 v2 s = some o → Go PP m15 95 [.val (.ref 1), .val (.int v1), .val (.int v2), x3, x4] [] (none, [(8, s)]) (some (.int o.1), (none, [(8, o.2)])) := by
  intro v1 v2 s x3 x4 hx3 hx4 o hf
  unfold k_rmapUnlink_95 at hf
  refine go_aloadN (pc := 95) d15_95 rfl (go_getA (pc := 96) fa_29 hm_15 d15_96 rfl (go_iloadN (pc := 99) d15_99 rfl (go_iconst (pc := 100) d15_100 ci_m1 ?_)))
  obtain ⟨a101, e1, hf⟩ := Option.bind_eq_some_iff.mp hf
  refine go_iastore (pc := 101) (q := 6) ar_6 rfl hn_15 e1 d15_101 ?_
  refine go_aloadN (pc := 102) d15_102 rfl (go_getA (pc := 103) fa_26 hm_15 d15_103 rfl (go_iloadN (pc := 106) d15_106 rfl (go_iconst (pc := 107) d15_107 ci_m1 ?_)))
  obtain ⟨a108, e2, hf⟩ := Option.bind_eq_some_iff.mp hf
  refine go_iastore (pc := 108) (q := 5) ar_5 rfl hn_15 e2 d15_108 ?_
  refine go_aloadN (pc := 109) d15_109 rfl (go_getA (pc := 110) fa_20 hm_15 d15_110 rfl (go_iloadN (pc := 113) d15_113 rfl (go_iconst (pc := 114) d15_114 ci_m1 ?_)))
  obtain ⟨a115, e3, hf⟩ := Option.bind_eq_some_iff.mp hf
  refine go_iastore (pc := 115) (q := 3) ar_3 rfl hn_15 e3 d15_115 ?_
  refine go_iloadN (pc := 116) d15_116 rfl ?_
  cases hf
  exact go_iret (pc := 117) rfl d15_117
set_option maxRecDepth 65536 in
set_option maxHeartbeats 4000000 in
theorem k_rmapUnlink_75_ok  : ∀ (v1 : Int32) (v2 : Int32) (v3 : Int32) (v4 : Int32) (s : S)  (o : Int32 × S), k_rmapUnlink_75 v1 v2 v3 v4 s = some o → Go PP m15 75 [.val (.ref 1), .val (.int v1), .val (.int v2), .val (.int v3), .val (.int v4)] [] (none, [(8, s)]) (some (.int o.1), (none, [(8, o.2)])) := by
  intro v1 v2 v3 v4 s o hf
  unfold k_rmapUnlink_75 at hf
  refine go_iload (pc := 75) d15_75 rfl ?_
  by_cases h1 : v4 < 0
  · replace hf := (if_pos h1).symm.trans hf
    refine go_ifY (pc := 77) (pc' := 95) d15_77 (XT.i0_lt_t h1) j_77_18 ?_
    exact k_rmapUnlink_95_ok v1 v2 s (.val (.int v3)) (.val (.int v4)) (Or.inr ⟨_, rfl, rfl⟩) (Or.inr ⟨_, rfl, rfl⟩) _ hf
  · replace hf := (if_neg h1).symm.trans hf
    refine go_ifN (pc := 77) d15_77 (XT.i0_lt_f h1) ?_
    refine go_iload (pc := 80) d15_80 rfl (go_bipush (pc := 82) d15_82 cb_64 ?_)
    by_cases h2 : v4 < (64 : Int32)
    · replace hf := (if_pos h2).symm.trans hf
      refine go_icN (pc := 84) d15_84 (XT.ii_ge_f h2) ?_
      refine go_aloadN (pc := 87) d15_87 rfl (go_getA (pc := 88) fa_29 hm_15 d15_88 rfl (go_iload (pc := 91) d15_91 rfl (go_iloadN (pc := 93) d15_93 rfl ?_)))
      obtain ⟨a94, e3, hf⟩ := Option.bind_eq_some_iff.mp hf
      refine go_iastore (pc := 94) (q := 6) ar_6 rfl hn_15 e3 d15_94 ?_
      exact k_rmapUnlink_95_ok v1 v2 (sA s 6 a94) (.val (.int v3)) (.val (.int v4)) (Or.inr ⟨_, rfl, rfl⟩) (Or.inr ⟨_, rfl, rfl⟩) _ hf
    · replace hf := (if_neg h2).symm.trans hf
      refine go_icY (pc := 84) (pc' := 95) d15_84 (XT.ii_ge_t h2) j_84_11 ?_
      exact k_rmapUnlink_95_ok v1 v2 s (.val (.int v3)) (.val (.int v4)) (Or.inr ⟨_, rfl, rfl⟩) (Or.inr ⟨_, rfl, rfl⟩) _ hf
set_option maxRecDepth 65536 in
set_option maxHeartbeats 4000000 in
theorem k_rmapUnlink_67_ok  : ∀ (v1 : Int32) (v2 : Int32) (v3 : Int32) (v4 : Int32) (s : S)  (o : Int32 × S), k_rmapUnlink_67 v1 v2 v3 v4 s = some o → Go PP m15 67 [.val (.ref 1), .val (.int v1), .val (.int v2), .val (.int v3), .val (.int v4)] [] (none, [(8, s)]) (some (.int o.1), (none, [(8, o.2)])) := by
  intro v1 v2 v3 v4 s o hf
  unfold k_rmapUnlink_67 at hf
  refine go_aloadN (pc := 67) d15_67 rfl (go_getA (pc := 68) fa_23 hm_15 d15_68 rfl (go_iloadN (pc := 71) d15_71 rfl (go_iload (pc := 72) d15_72 rfl ?_)))
  obtain ⟨a74, e1, hf⟩ := Option.bind_eq_some_iff.mp hf
  refine go_iastore (pc := 74) (q := 4) ar_4 rfl hn_15 e1 d15_74 ?_
  exact k_rmapUnlink_75_ok v1 v2 v3 v4 (sA s 4 a74) _ hf
set_option maxRecDepth 65536 in
set_option maxHeartbeats 4000000 in
theorem k_rmapUnlink_ok  : ∀ (v1 : Int32) (s : S)  (o : Int32 × S), k_rmapUnlink v1 s = some o → Go PP m15 0 [.val (.ref 1), .val (.int v1), .unset, .unset, .unset] [] (none, [(8, s)]) (some (.int o.1), (none, [(8, o.2)])) := by
  intro v1 s o hf
  unfold k_rmapUnlink at hf
  refine go_iloadN (pc := 0) d15_0 rfl ?_
  by_cases h1 : v1 < 0
  · replace hf := (if_pos h1).symm.trans hf
    refine go_ifY (pc := 1) (pc' := 10) d15_1 (XT.i0_lt_t h1) j_1_9 ?_
    refine go_iconst (pc := 10) d15_10 ci_m1 ?_
    cases hf
    exact go_iret (pc := 11) rfl d15_11
  · replace hf := (if_neg h1).symm.trans hf
    refine go_ifN (pc := 1) d15_1 (XT.i0_lt_f h1) ?_
    refine go_iloadN (pc := 4) d15_4 rfl (go_bipush (pc := 5) d15_5 cb_64 ?_)
    by_cases h2 : v1 < (64 : Int32)
    · replace hf := (if_pos h2).symm.trans hf
      refine go_icY (pc := 7) (pc' := 12) d15_7 (XT.ii_lt_t h2) j_7_5 ?_
      refine go_aloadN (pc := 12) d15_12 rfl (go_getA (pc := 13) fa_20 hm_15 d15_13 rfl (go_iloadN (pc := 16) d15_16 rfl ?_))
      obtain ⟨a17, e3, hf⟩ := Option.bind_eq_some_iff.mp hf
      refine go_iaload (pc := 17) (q := 3) ar_3 rfl e3 d15_17 ?_
      refine go_istoreN (pc := 18) (L' := [.val (.ref 1), .val (.int v1), .val (.int a17), .unset, .unset]) d15_18 rfl (go_iloadN (pc := 19) d15_19 rfl ?_)
      by_cases h4 : a17 < 0
      · replace hf := (if_pos h4).symm.trans hf
        refine go_ifY (pc := 20) (pc' := 29) d15_20 (XT.i0_lt_t h4) j_20_9 ?_
        refine go_iconst (pc := 29) d15_29 ci_m1 ?_
        cases hf
        exact go_iret (pc := 30) rfl d15_30
      · replace hf := (if_neg h4).symm.trans hf
        refine go_ifN (pc := 20) d15_20 (XT.i0_lt_f h4) ?_
        refine go_iloadN (pc := 23) d15_23 rfl (go_bipush (pc := 24) d15_24 cb_64 ?_)
        by_cases h5 : a17 < (64 : Int32)
        · replace hf := (if_pos h5).symm.trans hf
          refine go_icY (pc := 26) (pc' := 31) d15_26 (XT.ii_lt_t h5) j_26_5 ?_
          refine go_aloadN (pc := 31) d15_31 rfl (go_getA (pc := 32) fa_29 hm_15 d15_32 rfl (go_iloadN (pc := 35) d15_35 rfl ?_))
          obtain ⟨a36, e6, hf⟩ := Option.bind_eq_some_iff.mp hf
          refine go_iaload (pc := 36) (q := 6) ar_6 rfl e6 d15_36 ?_
          refine go_istoreN (pc := 37) (L' := [.val (.ref 1), .val (.int v1), .val (.int a17), .val (.int a36), .unset]) d15_37 rfl (go_aloadN (pc := 38) d15_38 rfl (go_getA (pc := 39) fa_26 hm_15 d15_39 rfl (go_iloadN (pc := 42) d15_42 rfl ?_)))
          obtain ⟨a43, e7, hf⟩ := Option.bind_eq_some_iff.mp hf
          refine go_iaload (pc := 43) (q := 5) ar_5 rfl e7 d15_43 ?_
          refine go_istore (pc := 44) (L' := [.val (.ref 1), .val (.int v1), .val (.int a17), .val (.int a36), .val (.int a43)]) d15_44 rfl (go_iloadN (pc := 46) d15_46 rfl ?_)
          by_cases h8 : a36 < 0
          · replace hf := (if_pos h8).symm.trans hf
            refine go_ifY (pc := 47) (pc' := 67) d15_47 (XT.i0_lt_t h8) j_47_20 ?_
            exact k_rmapUnlink_67_ok v1 a17 a36 a43 s _ hf
          · replace hf := (if_neg h8).symm.trans hf
            refine go_ifN (pc := 47) d15_47 (XT.i0_lt_f h8) ?_
            refine go_iloadN (pc := 50) d15_50 rfl (go_bipush (pc := 51) d15_51 cb_64 ?_)
            by_cases h9 : a36 < (64 : Int32)
            · replace hf := (if_pos h9).symm.trans hf
              refine go_icN (pc := 53) d15_53 (XT.ii_ge_f h9) ?_
              refine go_aloadN (pc := 56) d15_56 rfl (go_getA (pc := 57) fa_26 hm_15 d15_57 rfl (go_iloadN (pc := 60) d15_60 rfl (go_iload (pc := 61) d15_61 rfl ?_)))
              obtain ⟨a63, e10, hf⟩ := Option.bind_eq_some_iff.mp hf
              refine go_iastore (pc := 63) (q := 5) ar_5 rfl hn_15 e10 d15_63 ?_
              refine go_goto (pc := 64) (pc' := 75) d15_64 j_64_11 ?_
              exact k_rmapUnlink_75_ok v1 a17 a36 a43 (sA s 5 a63) _ hf
            · replace hf := (if_neg h9).symm.trans hf
              refine go_icY (pc := 53) (pc' := 67) d15_53 (XT.ii_ge_t h9) j_53_14 ?_
              exact k_rmapUnlink_67_ok v1 a17 a36 a43 s _ hf
        · replace hf := (if_neg h5).symm.trans hf
          refine go_icN (pc := 26) d15_26 (XT.ii_lt_f h5) ?_
          refine go_iconst (pc := 29) d15_29 ci_m1 ?_
          cases hf
          exact go_iret (pc := 30) rfl d15_30
    · replace hf := (if_neg h2).symm.trans hf
      refine go_icN (pc := 7) d15_7 (XT.ii_lt_f h2) ?_
      refine go_iconst (pc := 10) d15_10 ci_m1 ?_
      cases hf
      exact go_iret (pc := 11) rfl d15_11
theorem c_k_rmapUnlink (v1 : Int32) (s : S) (o : Int32 × S) (hf : k_rmapUnlink v1 s = some o) : Call PP m15 [.ref 1, .int v1] (none, [(8, s)]) (some (.int o.1), (none, [(8, o.2)])) := call_of_go pl_0 rfl (fun h => nomatch h) (k_rmapUnlink_ok v1 s   _ hf)
set_option maxRecDepth 65536 in
set_option maxHeartbeats 4000000 in
theorem k_detachPage_ok  : ∀ (v1 : Int32) (s : S)  (o : Int32 × S), k_detachPage v1 s = some o → Go PP m16 0 [.val (.ref 1), .val (.int v1), .unset] [] (none, [(8, s)]) (some (.int o.1), (none, [(8, o.2)])) := by
  intro v1 s o hf
  unfold k_detachPage at hf
  refine go_aloadN (pc := 0) d16_0 rfl (go_iloadN (pc := 1) d16_1 rfl ?_)
  obtain ⟨r2, e1, hf⟩ := Option.bind_eq_some_iff.mp hf
  refine go_priv (pc := 2) (i := 0) (as := [.int v1]) (rest := []) (w' := (none, [(8, r2.2)])) lk_0_156 pd_15 rfl oid_0 rfl rfl rfl rfl rfl rfl ⟨rfl, rfl, rfl, rfl, rfl⟩ d16_2 (c_k_rmapUnlink v1 s _ e1) ?_
  refine go_istoreN (pc := 5) (L' := [.val (.ref 1), .val (.int v1), .val (.int r2.1)]) d16_5 rfl (go_aloadN (pc := 6) d16_6 rfl (go_iloadN (pc := 7) d16_7 rfl ?_))
  refine go_priv (pc := 8) (i := 0) (as := [.int r2.1]) (rest := []) (w' := (none, [(8, r2.2)])) lk_0_62 pd_8 rfl oid_0 rfl rfl rfl rfl rfl rfl ⟨rfl, rfl, rfl, rfl, rfl⟩ d16_8 (c_k_frameInRange r2.1 r2.2) ?_
  by_cases h2 : (k_frameInRange r2.1 r2.2) = 0
  · replace hf := (if_pos h2).symm.trans hf
    refine go_ifN (pc := 11) d16_11 (XT.i0_ne_f h2) ?_
    refine go_iconst (pc := 14) d16_14 ci_m1 ?_
    cases hf
    exact go_iret (pc := 15) rfl d16_15
  · replace hf := (if_neg h2).symm.trans hf
    refine go_ifY (pc := 11) (pc' := 16) d16_11 (XT.i0_ne_t h2) j_11_5 ?_
    refine go_aloadN (pc := 16) d16_16 rfl (go_getA (pc := 17) fa_17 hm_16 d16_17 rfl (go_iloadN (pc := 20) d16_20 rfl (go_aloadN (pc := 21) d16_21 rfl (go_getA (pc := 22) fa_17 hm_16 d16_22 rfl (go_iloadN (pc := 25) d16_25 rfl ?_)))))
    obtain ⟨a26, e3, hf⟩ := Option.bind_eq_some_iff.mp hf
    refine go_iaload (pc := 26) (q := 2) ar_2 rfl e3 d16_26 ?_
    refine go_iconst (pc := 27) d16_27 ci_1 (go_isub (pc := 28) d16_28 ?_)
    obtain ⟨a29, e4, hf⟩ := Option.bind_eq_some_iff.mp hf
    refine go_iastore (pc := 29) (q := 2) ar_2 rfl hn_16 e4 d16_29 ?_
    refine go_iloadN (pc := 30) d16_30 rfl ?_
    cases hf
    exact go_iret (pc := 31) rfl d16_31
theorem c_k_detachPage (v1 : Int32) (s : S) (o : Int32 × S) (hf : k_detachPage v1 s = some o) : Call PP m16 [.ref 1, .int v1] (none, [(8, s)]) (some (.int o.1), (none, [(8, o.2)])) := call_of_go pl_0 rfl (fun h => nomatch h) (k_detachPage_ok v1 s   _ hf)
set_option maxRecDepth 65536 in
set_option maxHeartbeats 4000000 in
theorem k_freeFrame_ok  : ∀ (v1 : Int32) (s : S)  (o : S), k_freeFrame v1 s = some o → Go PP m17 0 [.val (.ref 1), .val (.int v1)] [] (none, [(8, s)]) (none, (none, [(8, o)])) := by
  intro v1 s o hf
  unfold k_freeFrame at hf
  refine go_aloadN (pc := 0) d17_0 rfl (go_iloadN (pc := 1) d17_1 rfl ?_)
  refine go_priv (pc := 2) (i := 0) (as := [.int v1]) (rest := []) (w' := (none, [(8, s)])) lk_0_62 pd_8 rfl oid_0 rfl rfl rfl rfl rfl rfl ⟨rfl, rfl, rfl, rfl, rfl⟩ d17_2 (c_k_frameInRange v1 s) ?_
  by_cases h1 : (k_frameInRange v1 s) = 0
  · replace hf := (if_pos h1).symm.trans hf
    refine go_ifN (pc := 5) d17_5 (XT.i0_ne_f h1) ?_
    cases hf
    exact go_ret (pc := 8) rfl d17_8
  · replace hf := (if_neg h1).symm.trans hf
    refine go_ifY (pc := 5) (pc' := 9) d17_5 (XT.i0_ne_t h1) j_5_4 ?_
    refine go_aloadN (pc := 9) d17_9 rfl (go_getA (pc := 10) fa_13 hm_17 d17_10 rfl (go_iloadN (pc := 13) d17_13 rfl (go_iconst (pc := 14) d17_14 ci_0 ?_)))
    obtain ⟨a15, e2, hf⟩ := Option.bind_eq_some_iff.mp hf
    refine go_iastore (pc := 15) (q := 1) ar_1 rfl hn_17 e2 d17_15 ?_
    refine go_aloadN (pc := 16) d17_16 rfl (go_getA (pc := 17) fa_17 hm_17 d17_17 rfl (go_iloadN (pc := 20) d17_20 rfl (go_iconst (pc := 21) d17_21 ci_0 ?_)))
    obtain ⟨a22, e3, hf⟩ := Option.bind_eq_some_iff.mp hf
    refine go_iastore (pc := 22) (q := 2) ar_2 rfl hn_17 e3 d17_22 ?_
    refine go_aloadN (pc := 23) d17_23 rfl (go_getA (pc := 24) fa_23 hm_17 d17_24 rfl (go_iloadN (pc := 27) d17_27 rfl (go_iconst (pc := 28) d17_28 ci_m1 ?_)))
    obtain ⟨a29, e4, hf⟩ := Option.bind_eq_some_iff.mp hf
    refine go_iastore (pc := 29) (q := 4) ar_4 rfl hn_17 e4 d17_29 ?_
    refine go_aloadN (pc := 30) d17_30 rfl (go_iloadN (pc := 31) d17_31 rfl (go_iconst (pc := 32) d17_32 ci_0 ?_))
    obtain ⟨r33, e5, hf⟩ := Option.bind_eq_some_iff.mp hf
    refine go_priv (pc := 33) (i := 0) (as := [.int v1, .int (0 : Int32)]) (rest := []) (w' := (none, [(8, r33)])) lk_0_69 pd_10 rfl oid_0 rfl rfl rfl rfl rfl rfl ⟨rfl, rfl, rfl, rfl, rfl⟩ d17_33 (c_k_enterState v1 (0 : Int32) (sA (sA (sA s 1 a15) 2 a22) 4 a29) _ e5) ?_
    cases hf
    exact go_ret (pc := 36) rfl d17_36
theorem c_k_freeFrame (v1 : Int32) (s : S) (o : S) (hf : k_freeFrame v1 s = some o) : Call PP m17 [.ref 1, .int v1] (none, [(8, s)]) (none, (none, [(8, o)])) := call_of_go pl_0 rfl (fun _ => rfl) (k_freeFrame_ok v1 s   _ hf)
set_option maxRecDepth 65536 in
set_option maxHeartbeats 4000000 in
theorem k_unmap_ok  : ∀ (v1 : Int32) (v2 : Int32) (s : S)  (o : Int32 × S), k_unmap v1 v2 s = some o → Go PP m18 0 [.val (.ref 1), .val (.int v1), .val (.int v2), .unset, .unset] [] (none, [(8, s)]) (some (.int o.1), (none, [(8, o.2)])) := by
  intro v1 v2 s o hf
  unfold k_unmap at hf
  refine go_aloadN (pc := 0) d18_0 rfl (go_iloadN (pc := 1) d18_1 rfl (go_iloadN (pc := 2) d18_2 rfl ?_))
  refine go_priv (pc := 3) (i := 0) (as := [.int v1, .int v2]) (rest := []) (w' := (none, [(8, s)])) lk_0_76 pd_4 rfl oid_0 rfl rfl rfl rfl rfl rfl ⟨rfl, rfl, rfl, rfl, rfl⟩ d18_3 (c_k_pageInRange v1 v2 s) ?_
  by_cases h1 : (k_pageInRange v1 v2 s) = 0
  · replace hf := (if_pos h1).symm.trans hf
    refine go_ifN (pc := 6) d18_6 (XT.i0_ne_f h1) ?_
    refine go_iconst (pc := 9) d18_9 ci_m1 ?_
    cases hf
    exact go_iret (pc := 10) rfl d18_10
  · replace hf := (if_neg h1).symm.trans hf
    refine go_ifY (pc := 6) (pc' := 11) d18_6 (XT.i0_ne_t h1) j_6_5 ?_
    refine go_aloadN (pc := 11) d18_11 rfl (go_iloadN (pc := 12) d18_12 rfl (go_iloadN (pc := 13) d18_13 rfl ?_))
    refine go_priv (pc := 14) (i := 0) (as := [.int v1, .int v2]) (rest := []) (w' := (none, [(8, s)])) lk_0_66 pd_5 rfl oid_0 rfl rfl rfl rfl rfl rfl ⟨rfl, rfl, rfl, rfl, rfl⟩ d18_14 (c_k_slotOf v1 v2 s) ?_
    refine go_istoreN (pc := 17) (L' := [.val (.ref 1), .val (.int v1), .val (.int v2), .val (.int (k_slotOf v1 v2)), .unset]) d18_17 rfl (go_aloadN (pc := 18) d18_18 rfl (go_getA (pc := 19) fa_20 hm_18 d18_19 rfl (go_iloadN (pc := 22) d18_22 rfl ?_)))
    obtain ⟨a23, e2, hf⟩ := Option.bind_eq_some_iff.mp hf
    refine go_iaload (pc := 23) (q := 3) ar_3 rfl e2 d18_23 ?_
    by_cases h3 : a23 < 0
    · replace hf := (if_pos h3).symm.trans hf
      refine go_ifN (pc := 24) d18_24 (XT.i0_ge_f h3) ?_
      refine go_bipush (pc := 27) d18_27 cb_m3 ?_
      cases hf
      exact go_iret (pc := 29) rfl d18_29
    · replace hf := (if_neg h3).symm.trans hf
      refine go_ifY (pc := 24) (pc' := 30) d18_24 (XT.i0_ge_t h3) j_24_6 ?_
      refine go_aloadN (pc := 30) d18_30 rfl (go_iloadN (pc := 31) d18_31 rfl ?_)
      obtain ⟨r32, e4, hf⟩ := Option.bind_eq_some_iff.mp hf
      refine go_priv (pc := 32) (i := 0) (as := [.int (k_slotOf v1 v2)]) (rest := []) (w' := (none, [(8, r32.2)])) lk_0_80 pd_16 rfl oid_0 rfl rfl rfl rfl rfl rfl ⟨rfl, rfl, rfl, rfl, rfl⟩ d18_32 (c_k_detachPage (k_slotOf v1 v2) s _ e4) ?_
      refine go_istore (pc := 35) (L' := [.val (.ref 1), .val (.int v1), .val (.int v2), .val (.int (k_slotOf v1 v2)), .val (.int r32.1)]) d18_35 rfl (go_aloadN (pc := 37) d18_37 rfl (go_iload (pc := 38) d18_38 rfl ?_))
      refine go_priv (pc := 40) (i := 0) (as := [.int r32.1]) (rest := []) (w' := (none, [(8, r32.2)])) lk_0_62 pd_8 rfl oid_0 rfl rfl rfl rfl rfl rfl ⟨rfl, rfl, rfl, rfl, rfl⟩ d18_40 (c_k_frameInRange r32.1 r32.2) ?_
      by_cases h5 : (k_frameInRange r32.1 r32.2) = 0
      · replace hf := (if_pos h5).symm.trans hf
        refine go_ifN (pc := 43) d18_43 (XT.i0_ne_f h5) ?_
        refine go_bipush (pc := 46) d18_46 cb_m3 ?_
        cases hf
        exact go_iret (pc := 48) rfl d18_48
      · replace hf := (if_neg h5).symm.trans hf
        refine go_ifY (pc := 43) (pc' := 49) d18_43 (XT.i0_ne_t h5) j_43_6 ?_
        refine go_aloadN (pc := 49) d18_49 rfl (go_getA (pc := 50) fa_17 hm_18 d18_50 rfl (go_iload (pc := 53) d18_53 rfl ?_))
        obtain ⟨a55, e6, hf⟩ := Option.bind_eq_some_iff.mp hf
        refine go_iaload (pc := 55) (q := 2) ar_2 rfl e6 d18_55 ?_
        by_cases h7 : 0 < a55
        · replace hf := (if_pos h7).symm.trans hf
          refine go_ifY (pc := 56) (pc' := 65) d18_56 (XT.i0_gt_t h7) j_56_9 ?_
          refine go_iload (pc := 65) d18_65 rfl ?_
          cases hf
          exact go_iret (pc := 67) rfl d18_67
        · replace hf := (if_neg h7).symm.trans hf
          refine go_ifN (pc := 56) d18_56 (XT.i0_gt_f h7) ?_
          refine go_aloadN (pc := 59) d18_59 rfl (go_iload (pc := 60) d18_60 rfl ?_)
          obtain ⟨r62, e8, hf⟩ := Option.bind_eq_some_iff.mp hf
          refine go_priv (pc := 62) (i := 0) (as := [.int r32.1]) (rest := []) (w' := (none, [(8, r62)])) lk_0_84 pd_17 rfl oid_0 rfl rfl rfl rfl rfl rfl ⟨rfl, rfl, rfl, rfl, rfl⟩ d18_62 (c_k_freeFrame r32.1 r32.2 _ e8) ?_
          refine go_iload (pc := 65) d18_65 rfl ?_
          cases hf
          exact go_iret (pc := 67) rfl d18_67
theorem c_k_unmap (v1 : Int32) (v2 : Int32) (s : S) (o : Int32 × S) (hf : k_unmap v1 v2 s = some o) : Call PP m18 [.ref 1, .int v1, .int v2] (none, [(8, s)]) (some (.int o.1), (none, [(8, o.2)])) := call_of_go pl_0 rfl (fun h => nomatch h) (k_unmap_ok v1 v2 s   _ hf)
set_option maxRecDepth 65536 in
set_option maxHeartbeats 4000000 in
theorem k_mappedFrame_ok  : ∀ (v1 : Int32) (v2 : Int32) (s : S)  (o : Int32), k_mappedFrame v1 v2 s = some o → Go PP m19 0 [.val (.ref 1), .val (.int v1), .val (.int v2), .unset, .unset] [] (none, [(8, s)]) (some (.int o), (none, [(8, s)])) := by
  intro v1 v2 s o hf
  unfold k_mappedFrame at hf
  refine go_aloadN (pc := 0) d19_0 rfl (go_iloadN (pc := 1) d19_1 rfl (go_iloadN (pc := 2) d19_2 rfl ?_))
  refine go_priv (pc := 3) (i := 0) (as := [.int v1, .int v2]) (rest := []) (w' := (none, [(8, s)])) lk_0_76 pd_4 rfl oid_0 rfl rfl rfl rfl rfl rfl ⟨rfl, rfl, rfl, rfl, rfl⟩ d19_3 (c_k_pageInRange v1 v2 s) ?_
  by_cases h1 : (k_pageInRange v1 v2 s) = 0
  · replace hf := (if_pos h1).symm.trans hf
    refine go_ifN (pc := 6) d19_6 (XT.i0_ne_f h1) ?_
    refine go_iconst (pc := 9) d19_9 ci_m1 ?_
    cases hf
    exact go_iret (pc := 10) rfl d19_10
  · replace hf := (if_neg h1).symm.trans hf
    refine go_ifY (pc := 6) (pc' := 11) d19_6 (XT.i0_ne_t h1) j_6_5 ?_
    refine go_aloadN (pc := 11) d19_11 rfl (go_iloadN (pc := 12) d19_12 rfl (go_iloadN (pc := 13) d19_13 rfl ?_))
    refine go_priv (pc := 14) (i := 0) (as := [.int v1, .int v2]) (rest := []) (w' := (none, [(8, s)])) lk_0_66 pd_5 rfl oid_0 rfl rfl rfl rfl rfl rfl ⟨rfl, rfl, rfl, rfl, rfl⟩ d19_14 (c_k_slotOf v1 v2 s) ?_
    refine go_istoreN (pc := 17) (L' := [.val (.ref 1), .val (.int v1), .val (.int v2), .val (.int (k_slotOf v1 v2)), .unset]) d19_17 rfl (go_aloadN (pc := 18) d19_18 rfl (go_getA (pc := 19) fa_20 hm_19 d19_19 rfl (go_iloadN (pc := 22) d19_22 rfl ?_)))
    obtain ⟨a23, e2, hf⟩ := Option.bind_eq_some_iff.mp hf
    refine go_iaload (pc := 23) (q := 3) ar_3 rfl e2 d19_23 ?_
    refine go_istore (pc := 24) (L' := [.val (.ref 1), .val (.int v1), .val (.int v2), .val (.int (k_slotOf v1 v2)), .val (.int a23)]) d19_24 rfl (go_aloadN (pc := 26) d19_26 rfl (go_iload (pc := 27) d19_27 rfl ?_))
    refine go_priv (pc := 29) (i := 0) (as := [.int a23]) (rest := []) (w' := (none, [(8, s)])) lk_0_62 pd_8 rfl oid_0 rfl rfl rfl rfl rfl rfl ⟨rfl, rfl, rfl, rfl, rfl⟩ d19_29 (c_k_frameInRange a23 s) ?_
    by_cases h3 : (k_frameInRange a23 s) = 0
    · replace hf := (if_pos h3).symm.trans hf
      refine go_ifN (pc := 32) d19_32 (XT.i0_ne_f h3) ?_
      refine go_iconst (pc := 35) d19_35 ci_m1 ?_
      cases hf
      exact go_iret (pc := 36) rfl d19_36
    · replace hf := (if_neg h3).symm.trans hf
      refine go_ifY (pc := 32) (pc' := 37) d19_32 (XT.i0_ne_t h3) j_32_5 ?_
      refine go_iload (pc := 37) d19_37 rfl ?_
      cases hf
      exact go_iret (pc := 39) rfl d19_39
theorem c_k_mappedFrame (v1 : Int32) (v2 : Int32) (s : S) (o : Int32) (hf : k_mappedFrame v1 v2 s = some o) : Call PP m19 [.ref 1, .int v1, .int v2] (none, [(8, s)]) (some (.int o), (none, [(8, s)])) := call_of_go pl_0 rfl (fun h => nomatch h) (k_mappedFrame_ok v1 v2 s   _ hf)
set_option maxRecDepth 65536 in
set_option maxHeartbeats 4000000 in
theorem k_write_ok  : ∀ (v1 : Int32) (v2 : Int32) (v3 : Int32) (s : S)  (o : Int32 × S), k_write v1 v2 v3 s = some o → Go PP m20 0 [.val (.ref 1), .val (.int v1), .val (.int v2), .val (.int v3), .unset] [] (none, [(8, s)]) (some (.int o.1), (none, [(8, o.2)])) := by
  intro v1 v2 v3 s o hf
  unfold k_write at hf
  refine go_aloadN (pc := 0) d20_0 rfl (go_iloadN (pc := 1) d20_1 rfl (go_iloadN (pc := 2) d20_2 rfl ?_))
  obtain ⟨r3, e1, hf⟩ := Option.bind_eq_some_iff.mp hf
  refine go_priv (pc := 3) (i := 0) (as := [.int v1, .int v2]) (rest := []) (w' := (none, [(8, s)])) lk_0_88 pd_19 rfl oid_0 rfl rfl rfl rfl rfl rfl ⟨rfl, rfl, rfl, rfl, rfl⟩ d20_3 (c_k_mappedFrame v1 v2 s _ e1) ?_
  refine go_istore (pc := 6) (L' := [.val (.ref 1), .val (.int v1), .val (.int v2), .val (.int v3), .val (.int r3)]) d20_6 rfl (go_iload (pc := 8) d20_8 rfl ?_)
  by_cases h2 : r3 < 0
  · replace hf := (if_pos h2).symm.trans hf
    refine go_ifN (pc := 10) d20_10 (XT.i0_ge_f h2) ?_
    refine go_iconst (pc := 13) d20_13 ci_0 ?_
    cases hf
    exact go_zret (pc := 14) rfl d20_14 (show (0 : Int32) = nar .boolean (0 : Int32) by decide)
  · replace hf := (if_neg h2).symm.trans hf
    refine go_ifY (pc := 10) (pc' := 15) d20_10 (XT.i0_ge_t h2) j_10_5 ?_
    refine go_aloadN (pc := 15) d20_15 rfl (go_getA (pc := 16) fa_13 hm_20 d20_16 rfl (go_iload (pc := 19) d20_19 rfl (go_iloadN (pc := 21) d20_21 rfl ?_)))
    obtain ⟨a22, e3, hf⟩ := Option.bind_eq_some_iff.mp hf
    refine go_iastore (pc := 22) (q := 1) ar_1 rfl hn_20 e3 d20_22 ?_
    refine go_iconst (pc := 23) d20_23 ci_1 ?_
    cases hf
    exact go_zret (pc := 24) rfl d20_24 (show (1 : Int32) = nar .boolean (1 : Int32) by decide)
theorem c_k_write (v1 : Int32) (v2 : Int32) (v3 : Int32) (s : S) (o : Int32 × S) (hf : k_write v1 v2 v3 s = some o) : Call PP m20 [.ref 1, .int v1, .int v2, .int v3] (none, [(8, s)]) (some (.int o.1), (none, [(8, o.2)])) := call_of_go pl_0 rfl (fun h => nomatch h) (k_write_ok v1 v2 v3 s   _ hf)
set_option maxRecDepth 65536 in
set_option maxHeartbeats 4000000 in
theorem k_pin_ok  : ∀ (v1 : Int32) (s : S)  (o : Int32 × S), k_pin v1 s = some o → Go PP m21 0 [.val (.ref 1), .val (.int v1)] [] (none, [(8, s)]) (some (.int o.1), (none, [(8, o.2)])) := by
  intro v1 s o hf
  unfold k_pin at hf
  refine go_aloadN (pc := 0) d21_0 rfl (go_iloadN (pc := 1) d21_1 rfl ?_)
  refine go_priv (pc := 2) (i := 0) (as := [.int v1]) (rest := []) (w' := (none, [(8, s)])) lk_0_62 pd_8 rfl oid_0 rfl rfl rfl rfl rfl rfl ⟨rfl, rfl, rfl, rfl, rfl⟩ d21_2 (c_k_frameInRange v1 s) ?_
  by_cases h1 : (k_frameInRange v1 s) = 0
  · replace hf := (if_pos h1).symm.trans hf
    refine go_ifN (pc := 5) d21_5 (XT.i0_ne_f h1) ?_
    refine go_iconst (pc := 8) d21_8 ci_0 ?_
    cases hf
    exact go_zret (pc := 9) rfl d21_9 (show (0 : Int32) = nar .boolean (0 : Int32) by decide)
  · replace hf := (if_neg h1).symm.trans hf
    refine go_ifY (pc := 5) (pc' := 10) d21_5 (XT.i0_ne_t h1) j_5_5 ?_
    refine go_aloadN (pc := 10) d21_10 rfl (go_getA (pc := 11) fa_7 hm_21 d21_11 rfl (go_iloadN (pc := 14) d21_14 rfl ?_))
    obtain ⟨a15, e2, hf⟩ := Option.bind_eq_some_iff.mp hf
    refine go_baload (pc := 15) (q := 0) ar_0 (by decide) rfl e2 d21_15 ?_
    refine go_iconst (pc := 16) d21_16 ci_1 ?_
    by_cases h3 : a15 = (1 : Int32)
    · replace hf := (if_pos h3).symm.trans hf
      refine go_icY (pc := 17) (pc' := 22) d21_17 (XT.ii_eq_t h3) j_17_5 ?_
      refine go_aloadN (pc := 22) d21_22 rfl (go_iloadN (pc := 23) d21_23 rfl (go_iconst (pc := 24) d21_24 ci_2 ?_))
      obtain ⟨r25, e4, hf⟩ := Option.bind_eq_some_iff.mp hf
      refine go_priv (pc := 25) (i := 0) (as := [.int v1, .int (2 : Int32)]) (rest := []) (w' := (none, [(8, r25)])) lk_0_69 pd_10 rfl oid_0 rfl rfl rfl rfl rfl rfl ⟨rfl, rfl, rfl, rfl, rfl⟩ d21_25 (c_k_enterState v1 (2 : Int32) s _ e4) ?_
      refine go_iconst (pc := 28) d21_28 ci_1 ?_
      cases hf
      exact go_zret (pc := 29) rfl d21_29 (show (1 : Int32) = nar .boolean (1 : Int32) by decide)
    · replace hf := (if_neg h3).symm.trans hf
      refine go_icN (pc := 17) d21_17 (XT.ii_eq_f h3) ?_
      refine go_iconst (pc := 20) d21_20 ci_0 ?_
      cases hf
      exact go_zret (pc := 21) rfl d21_21 (show (0 : Int32) = nar .boolean (0 : Int32) by decide)
theorem c_k_pin (v1 : Int32) (s : S) (o : Int32 × S) (hf : k_pin v1 s = some o) : Call PP m21 [.ref 1, .int v1] (none, [(8, s)]) (some (.int o.1), (none, [(8, o.2)])) := call_of_go pl_0 rfl (fun h => nomatch h) (k_pin_ok v1 s   _ hf)
set_option maxRecDepth 65536 in
set_option maxHeartbeats 4000000 in
theorem k_unpin_ok  : ∀ (v1 : Int32) (s : S)  (o : Int32 × S), k_unpin v1 s = some o → Go PP m22 0 [.val (.ref 1), .val (.int v1)] [] (none, [(8, s)]) (some (.int o.1), (none, [(8, o.2)])) := by
  intro v1 s o hf
  unfold k_unpin at hf
  refine go_aloadN (pc := 0) d22_0 rfl (go_iloadN (pc := 1) d22_1 rfl ?_)
  refine go_priv (pc := 2) (i := 0) (as := [.int v1]) (rest := []) (w' := (none, [(8, s)])) lk_0_62 pd_8 rfl oid_0 rfl rfl rfl rfl rfl rfl ⟨rfl, rfl, rfl, rfl, rfl⟩ d22_2 (c_k_frameInRange v1 s) ?_
  by_cases h1 : (k_frameInRange v1 s) = 0
  · replace hf := (if_pos h1).symm.trans hf
    refine go_ifN (pc := 5) d22_5 (XT.i0_ne_f h1) ?_
    refine go_iconst (pc := 8) d22_8 ci_0 ?_
    cases hf
    exact go_zret (pc := 9) rfl d22_9 (show (0 : Int32) = nar .boolean (0 : Int32) by decide)
  · replace hf := (if_neg h1).symm.trans hf
    refine go_ifY (pc := 5) (pc' := 10) d22_5 (XT.i0_ne_t h1) j_5_5 ?_
    refine go_aloadN (pc := 10) d22_10 rfl (go_getA (pc := 11) fa_7 hm_22 d22_11 rfl (go_iloadN (pc := 14) d22_14 rfl ?_))
    obtain ⟨a15, e2, hf⟩ := Option.bind_eq_some_iff.mp hf
    refine go_baload (pc := 15) (q := 0) ar_0 (by decide) rfl e2 d22_15 ?_
    refine go_iconst (pc := 16) d22_16 ci_2 ?_
    by_cases h3 : a15 = (2 : Int32)
    · replace hf := (if_pos h3).symm.trans hf
      refine go_icY (pc := 17) (pc' := 22) d22_17 (XT.ii_eq_t h3) j_17_5 ?_
      refine go_aloadN (pc := 22) d22_22 rfl (go_iloadN (pc := 23) d22_23 rfl (go_iconst (pc := 24) d22_24 ci_1 ?_))
      obtain ⟨r25, e4, hf⟩ := Option.bind_eq_some_iff.mp hf
      refine go_priv (pc := 25) (i := 0) (as := [.int v1, .int (1 : Int32)]) (rest := []) (w' := (none, [(8, r25)])) lk_0_69 pd_10 rfl oid_0 rfl rfl rfl rfl rfl rfl ⟨rfl, rfl, rfl, rfl, rfl⟩ d22_25 (c_k_enterState v1 (1 : Int32) s _ e4) ?_
      refine go_iconst (pc := 28) d22_28 ci_1 ?_
      cases hf
      exact go_zret (pc := 29) rfl d22_29 (show (1 : Int32) = nar .boolean (1 : Int32) by decide)
    · replace hf := (if_neg h3).symm.trans hf
      refine go_icN (pc := 17) d22_17 (XT.ii_eq_f h3) ?_
      refine go_iconst (pc := 20) d22_20 ci_0 ?_
      cases hf
      exact go_zret (pc := 21) rfl d22_21 (show (0 : Int32) = nar .boolean (0 : Int32) by decide)
theorem c_k_unpin (v1 : Int32) (s : S) (o : Int32 × S) (hf : k_unpin v1 s = some o) : Call PP m22 [.ref 1, .int v1] (none, [(8, s)]) (some (.int o.1), (none, [(8, o.2)])) := call_of_go pl_0 rfl (fun h => nomatch h) (k_unpin_ok v1 s   _ hf)
set_option maxRecDepth 65536 in
set_option maxHeartbeats 4000000 in
theorem k_alignMask_ok  {s : S} : ∀ (v1 : Int32)   (o : Int64), k_alignMask v1 = o → Go PP m23 0 [.val (.ref 1), .val (.int v1)] [] (none, [(8, s)]) (some (.long o), (none, [(8, s)])) := by
  intro v1 o hf
  unfold k_alignMask at hf
  refine go_iloadN (pc := 0) d23_0 rfl ?_
  by_cases h1 : v1 = 0
  · replace hf := (if_pos h1).symm.trans hf
    refine go_ifN (pc := 1) d23_1 (XT.i0_ne_f h1) ?_
    refine go_ldc2 (pc := 4) (u := (-1 : Int64)) d23_4 (List.mem_of_getElem? (i := 110) rfl) ?_
    cases hf
    exact go_lret (pc := 7) rfl d23_7
  · replace hf := (if_neg h1).symm.trans hf
    refine go_ifY (pc := 1) (pc' := 8) d23_1 (XT.i0_ne_t h1) j_1_7 ?_
    refine go_iloadN (pc := 8) d23_8 rfl (go_iconst (pc := 9) d23_9 ci_1 ?_)
    by_cases h2 : v1 = (1 : Int32)
    · replace hf := (if_pos h2).symm.trans hf
      refine go_icN (pc := 10) d23_10 (XT.ii_ne_f h2) ?_
      refine go_ldc2 (pc := 13) (u := (6148914691236517205 : Int64)) d23_13 (List.mem_of_getElem? (i := 174) rfl) ?_
      cases hf
      exact go_lret (pc := 16) rfl d23_16
    · replace hf := (if_neg h2).symm.trans hf
      refine go_icY (pc := 10) (pc' := 17) d23_10 (XT.ii_ne_t h2) j_10_7 ?_
      refine go_iloadN (pc := 17) d23_17 rfl (go_iconst (pc := 18) d23_18 ci_2 ?_)
      by_cases h3 : v1 = (2 : Int32)
      · replace hf := (if_pos h3).symm.trans hf
        refine go_icN (pc := 19) d23_19 (XT.ii_ne_f h3) ?_
        refine go_ldc2 (pc := 22) (u := (1229782938247303441 : Int64)) d23_22 (List.mem_of_getElem? (i := 247) rfl) ?_
        cases hf
        exact go_lret (pc := 25) rfl d23_25
      · replace hf := (if_neg h3).symm.trans hf
        refine go_icY (pc := 19) (pc' := 26) d23_19 (XT.ii_ne_t h3) j_19_7 ?_
        refine go_iloadN (pc := 26) d23_26 rfl (go_iconst (pc := 27) d23_27 ci_3 ?_)
        by_cases h4 : v1 = (3 : Int32)
        · replace hf := (if_pos h4).symm.trans hf
          refine go_icN (pc := 28) d23_28 (XT.ii_ne_f h4) ?_
          refine go_ldc2 (pc := 31) (u := (72340172838076673 : Int64)) d23_31 (List.mem_of_getElem? (i := 177) rfl) ?_
          cases hf
          exact go_lret (pc := 34) rfl d23_34
        · replace hf := (if_neg h4).symm.trans hf
          refine go_icY (pc := 28) (pc' := 35) d23_28 (XT.ii_ne_t h4) j_28_7 ?_
          refine go_iloadN (pc := 35) d23_35 rfl (go_iconst (pc := 36) d23_36 ci_4 ?_)
          by_cases h5 : v1 = (4 : Int32)
          · replace hf := (if_pos h5).symm.trans hf
            refine go_icN (pc := 37) d23_37 (XT.ii_ne_f h5) ?_
            refine go_ldc2 (pc := 40) (u := (281479271743489 : Int64)) d23_40 (List.mem_of_getElem? (i := 248) rfl) ?_
            cases hf
            exact go_lret (pc := 43) rfl d23_43
          · replace hf := (if_neg h5).symm.trans hf
            refine go_icY (pc := 37) (pc' := 44) d23_37 (XT.ii_ne_t h5) j_37_7 ?_
            refine go_iloadN (pc := 44) d23_44 rfl (go_iconst (pc := 45) d23_45 ci_5 ?_)
            by_cases h6 : v1 = (5 : Int32)
            · replace hf := (if_pos h6).symm.trans hf
              refine go_icN (pc := 46) d23_46 (XT.ii_ne_f h6) ?_
              refine go_ldc2 (pc := 49) (u := (4294967297 : Int64)) d23_49 (List.mem_of_getElem? (i := 249) rfl) ?_
              cases hf
              exact go_lret (pc := 52) rfl d23_52
            · replace hf := (if_neg h6).symm.trans hf
              refine go_icY (pc := 46) (pc' := 53) d23_46 (XT.ii_ne_t h6) j_46_7 ?_
              refine go_iloadN (pc := 53) d23_53 rfl (go_bipush (pc := 54) d23_54 cb_6 ?_)
              by_cases h7 : v1 = (6 : Int32)
              · replace hf := (if_pos h7).symm.trans hf
                refine go_icN (pc := 56) d23_56 (XT.ii_ne_f h7) ?_
                refine go_lconst (pc := 59) d23_59 cl_1 ?_
                cases hf
                exact go_lret (pc := 60) rfl d23_60
              · replace hf := (if_neg h7).symm.trans hf
                refine go_icY (pc := 56) (pc' := 61) d23_56 (XT.ii_ne_t h7) j_56_5 ?_
                refine go_lconst (pc := 61) d23_61 cl_0 ?_
                cases hf
                exact go_lret (pc := 62) rfl d23_62
theorem c_k_alignMask (v1 : Int32) (s : S) : Call PP m23 [.ref 1, .int v1] (none, [(8, s)]) (some (.long (k_alignMask v1)), (none, [(8, s)])) := call_of_go pl_0 rfl (fun h => nomatch h) (k_alignMask_ok v1   _ rfl)
set_option maxRecDepth 65536 in
set_option maxHeartbeats 4000000 in
theorem k_refreshRuns_65_ok  : ∀  (s : S) (x1 : Slot) (x2 : Slot) (x3 : Slot) (x4 : Slot) (x5 : Slot) (x6 : Slot) (hx1 : k2 x1 x2) (hx3 : k1 x3) (hx4 : k1 x4) (hx5 : k2 x5 x6) (o : S), k_refreshRuns_65 s = some o → Go PP m24 65 [.val (.ref 1), x1, x2, x3, x4, x5, x6] [] (none, [(8, s)]) (none, (none, [(8, o)])) := by
  intro s x1 x2 x3 x4 x5 x6 hx1 hx3 hx4 hx5 o hf
  unfold k_refreshRuns_65 at hf
  refine go_aloadN (pc := 65) d24_65 rfl (go_iconst (pc := 66) d24_66 ci_0 (go_putZ (pc := 67) fs_141 hm_24 (wr_6 _) hn_24 (by decide) d24_67 ?_))
  cases hf
  exact go_ret (pc := 70) rfl d24_70
set_option maxRecDepth 65536 in
set_option maxHeartbeats 4000000 in
theorem k_refreshRuns_22_ok  : ∀ (n : Nat) (v1 : Int64) (v3 : Int32) (s : S) (x4 : Slot) (x5 : Slot) (x6 : Slot) (hx4 : k1 x4) (hx5 : k2 x5 x6) (o : S), k_refreshRuns_22 n v1 v3 s = some o → Go PP m24 22 [.val (.ref 1), .val (.long v1), .second, .val (.int v3), x4, x5, x6] [] (none, [(8, s)]) (none, (none, [(8, o)])) := by
  intro n
  induction n with
  | zero => intro v1 v3 s x4 x5 x6 hx4 hx5 o hf; exact nomatch hf
  | succ n ih =>
    intro v1 v3 s x4 x5 x6 hx4 hx5 o hf
    unfold k_refreshRuns_22 at hf
    refine go_iloadN (pc := 22) d24_22 rfl (go_bipush (pc := 23) d24_23 cb_6 ?_)
    by_cases h1 : (6 : Int32) < v3
    · replace hf := (if_pos h1).symm.trans hf
      refine go_icY (pc := 25) (pc' := 65) d24_25 (XT.ii_gt_t h1) j_25_40 ?_
      exact k_refreshRuns_65_ok s (.val (.long v1)) .second (.val (.int v3)) x4 x5 x6 (Or.inr ⟨_, rfl, rfl⟩) (Or.inr ⟨_, rfl, rfl⟩) hx4 hx5 _ hf
    · replace hf := (if_neg h1).symm.trans hf
      refine go_icN (pc := 25) d24_25 (XT.ii_gt_f h1) ?_
      refine go_iconst (pc := 28) d24_28 ci_1 (go_iloadN (pc := 29) d24_29 rfl (go_iconst (pc := 30) d24_30 ci_1 (go_isub (pc := 31) d24_31 (go_ishl (pc := 32) d24_32 (go_istore (pc := 33) (L' := [.val (.ref 1), .val (.long v1), .second, .val (.int v3), .val (.int ((1 : Int32) <<< ((v3 - (1 : Int32)) &&& 31))), x5, x6]) d24_33 (stx rfl hx4 rfl) (go_aloadN (pc := 35) d24_35 rfl (go_iloadN (pc := 36) d24_36 rfl ?_)))))))
      refine go_priv (pc := 37) (i := 0) (as := [.int v3]) (rest := []) (w' := (none, [(8, s)])) lk_0_159 pd_23 rfl oid_0 rfl rfl rfl rfl rfl rfl ⟨rfl, rfl, rfl, rfl, rfl⟩ d24_37 (c_k_alignMask v3 s) ?_
      refine go_lstore (pc := 40) (L' := [.val (.ref 1), .val (.long v1), .second, .val (.int v3), .val (.int ((1 : Int32) <<< ((v3 - (1 : Int32)) &&& 31))), .val (.long (k_alignMask v3)), .second]) d24_40 (stx2 rfl rfl hx5) (go_lloadN (pc := 42) d24_42 rfl (go_lloadN (pc := 43) d24_43 rfl (go_iload (pc := 44) d24_44 rfl (go_lushr (pc := 46) d24_46 (go_land (pc := 47) d24_47 (go_lload (pc := 48) d24_48 rfl (go_land (pc := 50) d24_50 ?_)))))))
      refine go_lstoreN (pc := 51) (L' := [.val (.ref 1), .val (.long ((v1 &&& (XT.ushrL v1 ((1 : Int32) <<< ((v3 - (1 : Int32)) &&& 31)))) &&& (k_alignMask v3))), .second, .val (.int v3), .val (.int ((1 : Int32) <<< ((v3 - (1 : Int32)) &&& 31))), .val (.long (k_alignMask v3)), .second]) d24_51 rfl (go_aloadN (pc := 52) d24_52 rfl (go_getA (pc := 53) fa_32 hm_24 d24_53 rfl (go_iloadN (pc := 56) d24_56 rfl (go_lloadN (pc := 57) d24_57 rfl ?_))))
      obtain ⟨a58, e2, hf⟩ := Option.bind_eq_some_iff.mp hf
      refine go_lastore (pc := 58) (q := 7) ar_7 rfl hn_24 e2 d24_58 ?_
      refine go_iinc (pc := 59) (L' := [.val (.ref 1), .val (.long ((v1 &&& (XT.ushrL v1 ((1 : Int32) <<< ((v3 - (1 : Int32)) &&& 31)))) &&& (k_alignMask v3))), .second, .val (.int (v3 + (1 : Int32))), .val (.int ((1 : Int32) <<< ((v3 - (1 : Int32)) &&& 31))), .val (.long (k_alignMask v3)), .second]) d24_59 rfl ci_1 rfl (go_goto (pc := 62) (pc' := 22) d24_62 j_62_m40 ?_)
      exact ih ((v1 &&& (XT.ushrL v1 ((1 : Int32) <<< ((v3 - (1 : Int32)) &&& 31)))) &&& (k_alignMask v3)) (v3 + (1 : Int32)) (sB s 7 a58) (.val (.int ((1 : Int32) <<< ((v3 - (1 : Int32)) &&& 31)))) (.val (.long (k_alignMask v3))) .second (Or.inr ⟨_, rfl, rfl⟩) (Or.inr ⟨_, rfl, rfl⟩) _ hf
set_option maxRecDepth 65536 in
set_option maxHeartbeats 4000000 in
theorem k_refreshRuns_ok  : ∀  (s : S)  (o : S), k_refreshRuns s = some o → Go PP m24 0 [.val (.ref 1), .unset, .unset, .unset, .unset, .unset, .unset] [] (none, [(8, s)]) (none, (none, [(8, o)])) := by
  intro s o hf
  unfold k_refreshRuns at hf
  refine go_aloadN (pc := 0) d24_0 rfl (go_getZ (pc := 1) fs_141 hm_24 d24_1 ?_)
  by_cases h1 : (gI s 6) = 0
  · replace hf := (if_pos h1).symm.trans hf
    refine go_ifN (pc := 4) d24_4 (XT.i0_ne_f h1) ?_
    cases hf
    exact go_ret (pc := 7) rfl d24_7
  · replace hf := (if_neg h1).symm.trans hf
    refine go_ifY (pc := 4) (pc' := 8) d24_4 (XT.i0_ne_t h1) j_4_4 ?_
    refine go_aloadN (pc := 8) d24_8 rfl (go_getJ (pc := 9) fs_54 hm_24 d24_9 (go_lstoreN (pc := 12) (L' := [.val (.ref 1), .val (.long (gL s 2)), .second, .unset, .unset, .unset, .unset]) d24_12 rfl (go_aloadN (pc := 13) d24_13 rfl (go_getA (pc := 14) fa_32 hm_24 d24_14 rfl (go_iconst (pc := 17) d24_17 ci_0 (go_lloadN (pc := 18) d24_18 rfl ?_))))))
    obtain ⟨a19, e2, hf⟩ := Option.bind_eq_some_iff.mp hf
    refine go_lastore (pc := 19) (q := 7) ar_7 rfl hn_24 e2 d24_19 ?_
    refine go_iconst (pc := 20) d24_20 ci_1 (go_istoreN (pc := 21) (L' := [.val (.ref 1), .val (.long (gL s 2)), .second, .val (.int (1 : Int32)), .unset, .unset, .unset]) d24_21 rfl ?_)
    exact k_refreshRuns_22_ok BIG (gL s 2) (1 : Int32) (sB s 7 a19) .unset .unset .unset (Or.inl rfl) (Or.inl ⟨rfl, rfl⟩) _ hf
theorem c_k_refreshRuns (s : S) (o : S) (hf : k_refreshRuns s = some o) : Call PP m24 [.ref 1] (none, [(8, s)]) (none, (none, [(8, o)])) := call_of_go pl_0 rfl (fun _ => rfl) (k_refreshRuns_ok s   _ hf)
set_option maxRecDepth 65536 in
set_option maxHeartbeats 4000000 in
theorem k_freeRunsOfOrder_10_ok  : ∀  (s : S) (x1 : Slot) (hx1 : k1 x1) (o : Int64 × S), k_freeRunsOfOrder_10 s = some o → Go PP m25 10 [.val (.ref 1), x1] [] (none, [(8, s)]) (some (.long o.1), (none, [(8, o.2)])) := by
  intro s x1 hx1 o hf
  unfold k_freeRunsOfOrder_10 at hf
  refine go_lconst (pc := 10) d25_10 cl_0 ?_
  cases hf
  exact go_lret (pc := 11) rfl d25_11
set_option maxRecDepth 65536 in
set_option maxHeartbeats 4000000 in
theorem k_freeRunsOfOrder_ok  : ∀ (v1 : Int32) (s : S)  (o : Int64 × S), k_freeRunsOfOrder v1 s = some o → Go PP m25 0 [.val (.ref 1), .val (.int v1)] [] (none, [(8, s)]) (some (.long o.1), (none, [(8, o.2)])) := by
  intro v1 s o hf
  unfold k_freeRunsOfOrder at hf
  refine go_iloadN (pc := 0) d25_0 rfl ?_
  by_cases h1 : v1 < 0
  · replace hf := (if_pos h1).symm.trans hf
    refine go_ifY (pc := 1) (pc' := 10) d25_1 (XT.i0_lt_t h1) j_1_9 ?_
    exact k_freeRunsOfOrder_10_ok s (.val (.int v1)) (Or.inr ⟨_, rfl, rfl⟩) _ hf
  · replace hf := (if_neg h1).symm.trans hf
    refine go_ifN (pc := 1) d25_1 (XT.i0_lt_f h1) ?_
    refine go_iloadN (pc := 4) d25_4 rfl (go_bipush (pc := 5) d25_5 cb_6 ?_)
    by_cases h2 : (6 : Int32) < v1
    · replace hf := (if_pos h2).symm.trans hf
      refine go_icN (pc := 7) d25_7 (XT.ii_le_f h2) ?_
      exact k_freeRunsOfOrder_10_ok s (.val (.int v1)) (Or.inr ⟨_, rfl, rfl⟩) _ hf
    · replace hf := (if_neg h2).symm.trans hf
      refine go_icY (pc := 7) (pc' := 12) d25_7 (XT.ii_le_t h2) j_7_5 ?_
      refine go_aloadN (pc := 12) d25_12 rfl ?_
      obtain ⟨r13, e3, hf⟩ := Option.bind_eq_some_iff.mp hf
      refine go_priv (pc := 13) (i := 0) (as := []) (rest := []) (w' := (none, [(8, r13)])) lk_0_126 pd_24 rfl oid_0 rfl rfl rfl rfl rfl rfl ⟨rfl, rfl, rfl, rfl, rfl⟩ d25_13 (c_k_refreshRuns s _ e3) ?_
      refine go_aloadN (pc := 16) d25_16 rfl (go_getA (pc := 17) fa_32 hm_25 d25_17 rfl (go_iloadN (pc := 20) d25_20 rfl ?_))
      obtain ⟨a21, e4, hf⟩ := Option.bind_eq_some_iff.mp hf
      refine go_laload (pc := 21) (q := 7) ar_7 rfl e4 d25_21 ?_
      cases hf
      exact go_lret (pc := 22) rfl d25_22
theorem c_k_freeRunsOfOrder (v1 : Int32) (s : S) (o : Int64 × S) (hf : k_freeRunsOfOrder v1 s = some o) : Call PP m25 [.ref 1, .int v1] (none, [(8, s)]) (some (.long o.1), (none, [(8, o.2)])) := call_of_go pl_0 rfl (fun h => nomatch h) (k_freeRunsOfOrder_ok v1 s   _ hf)
set_option maxRecDepth 65536 in
set_option maxHeartbeats 4000000 in
theorem k_reserveFrame_ok  : ∀ (v1 : Int32) (s : S)  (o : S), k_reserveFrame v1 s = some o → Go PP m26 0 [.val (.ref 1), .val (.int v1)] [] (none, [(8, s)]) (none, (none, [(8, o)])) := by
  intro v1 s o hf
  unfold k_reserveFrame at hf
  refine go_aloadN (pc := 0) d26_0 rfl (go_iloadN (pc := 1) d26_1 rfl ?_)
  refine go_priv (pc := 2) (i := 0) (as := [.int v1]) (rest := []) (w' := (none, [(8, s)])) lk_0_62 pd_8 rfl oid_0 rfl rfl rfl rfl rfl rfl ⟨rfl, rfl, rfl, rfl, rfl⟩ d26_2 (c_k_frameInRange v1 s) ?_
  by_cases h1 : (k_frameInRange v1 s) = 0
  · replace hf := (if_pos h1).symm.trans hf
    refine go_ifN (pc := 5) d26_5 (XT.i0_ne_f h1) ?_
    cases hf
    exact go_ret (pc := 8) rfl d26_8
  · replace hf := (if_neg h1).symm.trans hf
    refine go_ifY (pc := 5) (pc' := 9) d26_5 (XT.i0_ne_t h1) j_5_4 ?_
    refine go_aloadN (pc := 9) d26_9 rfl (go_getA (pc := 10) fa_13 hm_26 d26_10 rfl (go_iloadN (pc := 13) d26_13 rfl (go_iconst (pc := 14) d26_14 ci_0 ?_)))
    obtain ⟨a15, e2, hf⟩ := Option.bind_eq_some_iff.mp hf
    refine go_iastore (pc := 15) (q := 1) ar_1 rfl hn_26 e2 d26_15 ?_
    refine go_aloadN (pc := 16) d26_16 rfl (go_getA (pc := 17) fa_17 hm_26 d26_17 rfl (go_iloadN (pc := 20) d26_20 rfl (go_iconst (pc := 21) d26_21 ci_0 ?_)))
    obtain ⟨a22, e3, hf⟩ := Option.bind_eq_some_iff.mp hf
    refine go_iastore (pc := 22) (q := 2) ar_2 rfl hn_26 e3 d26_22 ?_
    refine go_aloadN (pc := 23) d26_23 rfl (go_getA (pc := 24) fa_23 hm_26 d26_24 rfl (go_iloadN (pc := 27) d26_27 rfl (go_iconst (pc := 28) d26_28 ci_m1 ?_)))
    obtain ⟨a29, e4, hf⟩ := Option.bind_eq_some_iff.mp hf
    refine go_iastore (pc := 29) (q := 4) ar_4 rfl hn_26 e4 d26_29 ?_
    refine go_aloadN (pc := 30) d26_30 rfl (go_iloadN (pc := 31) d26_31 rfl (go_iconst (pc := 32) d26_32 ci_3 ?_))
    obtain ⟨r33, e5, hf⟩ := Option.bind_eq_some_iff.mp hf
    refine go_priv (pc := 33) (i := 0) (as := [.int v1, .int (3 : Int32)]) (rest := []) (w' := (none, [(8, r33)])) lk_0_69 pd_10 rfl oid_0 rfl rfl rfl rfl rfl rfl ⟨rfl, rfl, rfl, rfl, rfl⟩ d26_33 (c_k_enterState v1 (3 : Int32) (sA (sA (sA s 1 a15) 2 a22) 4 a29) _ e5) ?_
    cases hf
    exact go_ret (pc := 36) rfl d26_36
theorem c_k_reserveFrame (v1 : Int32) (s : S) (o : S) (hf : k_reserveFrame v1 s = some o) : Call PP m26 [.ref 1, .int v1] (none, [(8, s)]) (none, (none, [(8, o)])) := call_of_go pl_0 rfl (fun _ => rfl) (k_reserveFrame_ok v1 s   _ hf)
set_option maxRecDepth 65536 in
set_option maxHeartbeats 4000000 in
theorem k_reserveRun_7_ok  : ∀ (n : Nat) (v1 : Int32) (v3 : Int32) (v4 : Int32) (s : S) (x2 : Slot) (hx2 : k1 x2) (o : S), k_reserveRun_7 n v1 v3 v4 s = some o → Go PP m27 7 [.val (.ref 1), .val (.int v1), x2, .val (.int v3), .val (.int v4)] [] (none, [(8, s)]) (none, (none, [(8, o)])) := by
  intro n
  induction n with
  | zero => intro v1 v3 v4 s x2 hx2 o hf; exact nomatch hf
  | succ n ih =>
    intro v1 v3 v4 s x2 hx2 o hf
    unfold k_reserveRun_7 at hf
    refine go_iload (pc := 7) d27_7 rfl (go_iloadN (pc := 9) d27_9 rfl ?_)
    by_cases h1 : v4 < v3
    · replace hf := (if_pos h1).symm.trans hf
      refine go_icN (pc := 10) d27_10 (XT.ii_ge_f h1) ?_
      refine go_iload (pc := 13) d27_13 rfl (go_bipush (pc := 15) d27_15 cb_64 ?_)
      by_cases h2 : v4 < (64 : Int32)
      · replace hf := (if_pos h2).symm.trans hf
        refine go_icN (pc := 17) d27_17 (XT.ii_ge_f h2) ?_
        refine go_aloadN (pc := 20) d27_20 rfl (go_iloadN (pc := 21) d27_21 rfl (go_iload (pc := 22) d27_22 rfl (go_iadd (pc := 24) d27_24 ?_)))
        obtain ⟨r25, e3, hf⟩ := Option.bind_eq_some_iff.mp hf
        refine go_priv (pc := 25) (i := 0) (as := [.int (v1 + v4)]) (rest := []) (w' := (none, [(8, r25)])) lk_0_150 pd_26 rfl oid_0 rfl rfl rfl rfl rfl rfl ⟨rfl, rfl, rfl, rfl, rfl⟩ d27_25 (c_k_reserveFrame (v1 + v4) s _ e3) ?_
        refine go_iinc (pc := 28) (L' := [.val (.ref 1), .val (.int v1), x2, .val (.int v3), .val (.int (v4 + (1 : Int32)))]) d27_28 rfl ci_1 rfl (go_goto (pc := 31) (pc' := 7) d27_31 j_31_m24 ?_)
        exact ih v1 v3 (v4 + (1 : Int32)) r25 x2 hx2 _ hf
      · replace hf := (if_neg h2).symm.trans hf
        refine go_icY (pc := 17) (pc' := 34) d27_17 (XT.ii_ge_t h2) j_17_17 ?_
        cases hf
        exact go_ret (pc := 34) rfl d27_34
    · replace hf := (if_neg h1).symm.trans hf
      refine go_icY (pc := 10) (pc' := 34) d27_10 (XT.ii_ge_t h1) j_10_24 ?_
      cases hf
      exact go_ret (pc := 34) rfl d27_34
set_option maxRecDepth 65536 in
set_option maxHeartbeats 4000000 in
theorem k_reserveRun_ok  : ∀ (v1 : Int32) (v2 : Int32) (s : S)  (o : S), k_reserveRun v1 v2 s = some o → Go PP m27 0 [.val (.ref 1), .val (.int v1), .val (.int v2), .unset, .unset] [] (none, [(8, s)]) (none, (none, [(8, o)])) := by
  intro v1 v2 s o hf
  unfold k_reserveRun at hf
  refine go_iconst (pc := 0) d27_0 ci_1 (go_iloadN (pc := 1) d27_1 rfl (go_ishl (pc := 2) d27_2 (go_istoreN (pc := 3) (L' := [.val (.ref 1), .val (.int v1), .val (.int v2), .val (.int ((1 : Int32) <<< (v2 &&& 31))), .unset]) d27_3 rfl (go_iconst (pc := 4) d27_4 ci_0 (go_istore (pc := 5) (L' := [.val (.ref 1), .val (.int v1), .val (.int v2), .val (.int ((1 : Int32) <<< (v2 &&& 31))), .val (.int (0 : Int32))]) d27_5 rfl ?_)))))
  exact k_reserveRun_7_ok BIG v1 ((1 : Int32) <<< (v2 &&& 31)) (0 : Int32) s (.val (.int v2)) (Or.inr ⟨_, rfl, rfl⟩) _ hf
theorem c_k_reserveRun (v1 : Int32) (v2 : Int32) (s : S) (o : S) (hf : k_reserveRun v1 v2 s = some o) : Call PP m27 [.ref 1, .int v1, .int v2] (none, [(8, s)]) (none, (none, [(8, o)])) := call_of_go pl_0 rfl (fun _ => rfl) (k_reserveRun_ok v1 v2 s   _ hf)
set_option maxRecDepth 65536 in
set_option maxHeartbeats 4000000 in
theorem k_allocBlock_ok  : ∀ (v1 : Int32) (s : S)  (o : Int32 × S), k_allocBlock v1 s = some o → Go PP m28 0 [.val (.ref 1), .val (.int v1), .unset, .unset, .unset] [] (none, [(8, s)]) (some (.int o.1), (none, [(8, o.2)])) := by
  intro v1 s o hf
  unfold k_allocBlock at hf
  refine go_iloadN (pc := 0) d28_0 rfl ?_
  by_cases h1 : v1 < 0
  · replace hf := (if_pos h1).symm.trans hf
    refine go_ifY (pc := 1) (pc' := 10) d28_1 (XT.i0_lt_t h1) j_1_9 ?_
    refine go_iconst (pc := 10) d28_10 ci_m1 ?_
    cases hf
    exact go_iret (pc := 11) rfl d28_11
  · replace hf := (if_neg h1).symm.trans hf
    refine go_ifN (pc := 1) d28_1 (XT.i0_lt_f h1) ?_
    refine go_iloadN (pc := 4) d28_4 rfl (go_bipush (pc := 5) d28_5 cb_6 ?_)
    by_cases h2 : (6 : Int32) < v1
    · replace hf := (if_pos h2).symm.trans hf
      refine go_icN (pc := 7) d28_7 (XT.ii_le_f h2) ?_
      refine go_iconst (pc := 10) d28_10 ci_m1 ?_
      cases hf
      exact go_iret (pc := 11) rfl d28_11
    · replace hf := (if_neg h2).symm.trans hf
      refine go_icY (pc := 7) (pc' := 12) d28_7 (XT.ii_le_t h2) j_7_5 ?_
      refine go_aloadN (pc := 12) d28_12 rfl (go_iloadN (pc := 13) d28_13 rfl ?_)
      obtain ⟨r14, e3, hf⟩ := Option.bind_eq_some_iff.mp hf
      refine go_priv (pc := 14) (i := 0) (as := [.int v1]) (rest := []) (w' := (none, [(8, r14.2)])) lk_0_91 pd_25 rfl oid_0 rfl rfl rfl rfl rfl rfl ⟨rfl, rfl, rfl, rfl, rfl⟩ d28_14 (c_k_freeRunsOfOrder v1 s _ e3) ?_
      refine go_lstoreN (pc := 17) (L' := [.val (.ref 1), .val (.int v1), .val (.long r14.1), .second, .unset]) d28_17 rfl (go_lloadN (pc := 18) d28_18 rfl (go_lconst (pc := 19) d28_19 cl_0 (go_lcmp (pc := 20) d28_20 ?_)))
      by_cases h4 : r14.1 = (0 : Int64)
      · replace hf := (if_pos h4).symm.trans hf
        refine go_ifN (pc := 21) d28_21 (XT.ll_ne_f h4) ?_
        refine go_bipush (pc := 24) d28_24 cb_m4 ?_
        cases hf
        exact go_iret (pc := 26) rfl d28_26
      · replace hf := (if_neg h4).symm.trans hf
        refine go_ifY (pc := 21) (pc' := 27) d28_21 (XT.ll_ne_t h4) j_21_6 ?_
        refine go_aloadN (pc := 27) d28_27 rfl (go_lloadN (pc := 28) d28_28 rfl ?_)
        refine go_priv (pc := 29) (i := 0) (as := [.long r14.1]) (rest := []) (w' := (none, [(8, r14.2)])) lk_0_58 pd_7 rfl oid_0 rfl rfl rfl rfl rfl rfl ⟨rfl, rfl, rfl, rfl, rfl⟩ d28_29 (c_k_lowestBit r14.1 r14.2) ?_
        refine go_istore (pc := 32) (L' := [.val (.ref 1), .val (.int v1), .val (.long r14.1), .second, .val (.int (k_lowestBit r14.1))]) d28_32 rfl (go_aloadN (pc := 34) d28_34 rfl (go_iload (pc := 35) d28_35 rfl ?_))
        refine go_priv (pc := 37) (i := 0) (as := [.int (k_lowestBit r14.1)]) (rest := []) (w' := (none, [(8, r14.2)])) lk_0_62 pd_8 rfl oid_0 rfl rfl rfl rfl rfl rfl ⟨rfl, rfl, rfl, rfl, rfl⟩ d28_37 (c_k_frameInRange (k_lowestBit r14.1) r14.2) ?_
        by_cases h5 : (k_frameInRange (k_lowestBit r14.1) r14.2) = 0
        · replace hf := (if_pos h5).symm.trans hf
          refine go_ifN (pc := 40) d28_40 (XT.i0_ne_f h5) ?_
          refine go_bipush (pc := 43) d28_43 cb_m4 ?_
          cases hf
          exact go_iret (pc := 45) rfl d28_45
        · replace hf := (if_neg h5).symm.trans hf
          refine go_ifY (pc := 40) (pc' := 46) d28_40 (XT.i0_ne_t h5) j_40_6 ?_
          refine go_aloadN (pc := 46) d28_46 rfl (go_iload (pc := 47) d28_47 rfl (go_iloadN (pc := 49) d28_49 rfl ?_))
          obtain ⟨r50, e6, hf⟩ := Option.bind_eq_some_iff.mp hf
          refine go_priv (pc := 50) (i := 0) (as := [.int (k_lowestBit r14.1), .int v1]) (rest := []) (w' := (none, [(8, r50)])) lk_0_95 pd_27 rfl oid_0 rfl rfl rfl rfl rfl rfl ⟨rfl, rfl, rfl, rfl, rfl⟩ d28_50 (c_k_reserveRun (k_lowestBit r14.1) v1 r14.2 _ e6) ?_
          refine go_iload (pc := 53) d28_53 rfl ?_
          cases hf
          exact go_iret (pc := 55) rfl d28_55
theorem c_k_allocBlock (v1 : Int32) (s : S) (o : Int32 × S) (hf : k_allocBlock v1 s = some o) : Call PP m28 [.ref 1, .int v1] (none, [(8, s)]) (some (.int o.1), (none, [(8, o.2)])) := call_of_go pl_0 rfl (fun h => nomatch h) (k_allocBlock_ok v1 s   _ hf)
set_option maxRecDepth 65536 in
set_option maxHeartbeats 4000000 in
theorem k_release_ok  : ∀ (v1 : Int32) (s : S)  (o : Int32 × S), k_release v1 s = some o → Go PP m29 0 [.val (.ref 1), .val (.int v1)] [] (none, [(8, s)]) (some (.int o.1), (none, [(8, o.2)])) := by
  intro v1 s o hf
  unfold k_release at hf
  refine go_aloadN (pc := 0) d29_0 rfl (go_iloadN (pc := 1) d29_1 rfl ?_)
  refine go_priv (pc := 2) (i := 0) (as := [.int v1]) (rest := []) (w' := (none, [(8, s)])) lk_0_62 pd_8 rfl oid_0 rfl rfl rfl rfl rfl rfl ⟨rfl, rfl, rfl, rfl, rfl⟩ d29_2 (c_k_frameInRange v1 s) ?_
  by_cases h1 : (k_frameInRange v1 s) = 0
  · replace hf := (if_pos h1).symm.trans hf
    refine go_ifN (pc := 5) d29_5 (XT.i0_ne_f h1) ?_
    refine go_iconst (pc := 8) d29_8 ci_0 ?_
    cases hf
    exact go_zret (pc := 9) rfl d29_9 (show (0 : Int32) = nar .boolean (0 : Int32) by decide)
  · replace hf := (if_neg h1).symm.trans hf
    refine go_ifY (pc := 5) (pc' := 10) d29_5 (XT.i0_ne_t h1) j_5_5 ?_
    refine go_aloadN (pc := 10) d29_10 rfl (go_getA (pc := 11) fa_7 hm_29 d29_11 rfl (go_iloadN (pc := 14) d29_14 rfl ?_))
    obtain ⟨a15, e2, hf⟩ := Option.bind_eq_some_iff.mp hf
    refine go_baload (pc := 15) (q := 0) ar_0 (by decide) rfl e2 d29_15 ?_
    refine go_iconst (pc := 16) d29_16 ci_3 ?_
    by_cases h3 : a15 = (3 : Int32)
    · replace hf := (if_pos h3).symm.trans hf
      refine go_icY (pc := 17) (pc' := 22) d29_17 (XT.ii_eq_t h3) j_17_5 ?_
      refine go_aloadN (pc := 22) d29_22 rfl (go_iloadN (pc := 23) d29_23 rfl ?_)
      obtain ⟨r24, e4, hf⟩ := Option.bind_eq_some_iff.mp hf
      refine go_priv (pc := 24) (i := 0) (as := [.int v1]) (rest := []) (w' := (none, [(8, r24)])) lk_0_84 pd_17 rfl oid_0 rfl rfl rfl rfl rfl rfl ⟨rfl, rfl, rfl, rfl, rfl⟩ d29_24 (c_k_freeFrame v1 s _ e4) ?_
      refine go_iconst (pc := 27) d29_27 ci_1 ?_
      cases hf
      exact go_zret (pc := 28) rfl d29_28 (show (1 : Int32) = nar .boolean (1 : Int32) by decide)
    · replace hf := (if_neg h3).symm.trans hf
      refine go_icN (pc := 17) d29_17 (XT.ii_eq_f h3) ?_
      refine go_iconst (pc := 20) d29_20 ci_0 ?_
      cases hf
      exact go_zret (pc := 21) rfl d29_21 (show (0 : Int32) = nar .boolean (0 : Int32) by decide)
theorem c_k_release (v1 : Int32) (s : S) (o : Int32 × S) (hf : k_release v1 s = some o) : Call PP m29 [.ref 1, .int v1] (none, [(8, s)]) (some (.int o.1), (none, [(8, o.2)])) := call_of_go pl_0 rfl (fun h => nomatch h) (k_release_ok v1 s   _ hf)
set_option maxRecDepth 65536 in
set_option maxHeartbeats 4000000 in
theorem k_rangeMask_ok  {s : S} : ∀ (v1 : Int32) (v2 : Int32)   (o : Int64), k_rangeMask v1 v2 = o → Go PP m30 0 [.val (.ref 1), .val (.int v1), .val (.int v2), .unset, .unset, .unset, .unset] [] (none, [(8, s)]) (some (.long o), (none, [(8, s)])) := by
  intro v1 v2 o hf
  unfold k_rangeMask at hf
  refine go_iloadN (pc := 0) d30_0 rfl (go_iloadN (pc := 1) d30_1 rfl ?_)
  by_cases h1 : v1 < v2
  · replace hf := (if_pos h1).symm.trans hf
    refine go_icY (pc := 2) (pc' := 7) d30_2 (XT.ii_gt_t h1) j_2_5 ?_
    refine go_aloadN (pc := 7) d30_7 rfl (go_iloadN (pc := 8) d30_8 rfl ?_)
    refine go_priv (pc := 9) (i := 0) (as := [.int v2]) (rest := []) (w' := (none, [(8, s)])) lk_0_129 pd_1 rfl oid_0 rfl rfl rfl rfl rfl rfl ⟨rfl, rfl, rfl, rfl, rfl⟩ d30_9 (c_k_lowMask v2 s) ?_
    refine go_lstoreN (pc := 12) (L' := [.val (.ref 1), .val (.int v1), .val (.int v2), .val (.long (k_lowMask v2)), .second, .unset, .unset]) d30_12 rfl (go_aloadN (pc := 13) d30_13 rfl (go_iloadN (pc := 14) d30_14 rfl ?_))
    refine go_priv (pc := 15) (i := 0) (as := [.int v1]) (rest := []) (w' := (none, [(8, s)])) lk_0_129 pd_1 rfl oid_0 rfl rfl rfl rfl rfl rfl ⟨rfl, rfl, rfl, rfl, rfl⟩ d30_15 (c_k_lowMask v1 s) ?_
    refine go_lstore (pc := 18) (L' := [.val (.ref 1), .val (.int v1), .val (.int v2), .val (.long (k_lowMask v2)), .second, .val (.long (k_lowMask v1)), .second]) d30_18 rfl (go_lloadN (pc := 20) d30_20 rfl (go_lload (pc := 21) d30_21 rfl (go_ldc2 (pc := 23) (u := (-1 : Int64)) d30_23 (List.mem_of_getElem? (i := 110) rfl) (go_lxor (pc := 26) d30_26 (go_land (pc := 27) d30_27 ?_)))))
    cases hf
    exact go_lret (pc := 28) rfl d30_28
  · replace hf := (if_neg h1).symm.trans hf
    refine go_icN (pc := 2) d30_2 (XT.ii_gt_f h1) ?_
    refine go_lconst (pc := 5) d30_5 cl_0 ?_
    cases hf
    exact go_lret (pc := 6) rfl d30_6
theorem c_k_rangeMask (v1 : Int32) (v2 : Int32) (s : S) : Call PP m30 [.ref 1, .int v1, .int v2] (none, [(8, s)]) (some (.long (k_rangeMask v1 v2)), (none, [(8, s)])) := call_of_go pl_0 rfl (fun h => nomatch h) (k_rangeMask_ok v1 v2   _ rfl)
set_option maxRecDepth 65536 in
set_option maxHeartbeats 4000000 in
theorem k_advanceMigrateScanner_ok  : ∀  (s : S)  (o : S), k_advanceMigrateScanner s = o → Go PP m31 0 [.val (.ref 1), .unset, .unset, .unset, .unset] [] (none, [(8, s)]) (none, (none, [(8, o)])) := by
  intro s o hf
  unfold k_advanceMigrateScanner at hf
  refine go_aloadN (pc := 0) d31_0 rfl (go_getI (pc := 1) fs_104 hm_31 d31_1 (go_aloadN (pc := 4) d31_4 rfl (go_getI (pc := 5) fs_107 hm_31 d31_5 ?_)))
  by_cases h1 : (gI s 9) < (gI s 10)
  · replace hf := (if_pos h1).symm.trans hf
    refine go_icY (pc := 8) (pc' := 12) d31_8 (XT.ii_lt_t h1) j_8_4 ?_
    refine go_aloadN (pc := 12) d31_12 rfl (go_aloadN (pc := 13) d31_13 rfl (go_getI (pc := 14) fs_104 hm_31 d31_14 (go_aloadN (pc := 17) d31_17 rfl (go_getI (pc := 18) fs_107 hm_31 d31_18 ?_))))
    refine go_priv (pc := 21) (i := 0) (as := [.int (gI s 9), .int (gI s 10)]) (rest := []) (w' := (none, [(8, s)])) lk_0_172 pd_30 rfl oid_0 rfl rfl rfl rfl rfl rfl ⟨rfl, rfl, rfl, rfl, rfl⟩ d31_21 (c_k_rangeMask (gI s 9) (gI s 10) s) ?_
    refine go_lstoreN (pc := 24) (L' := [.val (.ref 1), .val (.long (k_rangeMask (gI s 9) (gI s 10))), .second, .unset, .unset]) d31_24 rfl (go_aloadN (pc := 25) d31_25 rfl (go_getJ (pc := 26) fs_132 hm_31 d31_26 (go_lloadN (pc := 29) d31_29 rfl (go_land (pc := 30) d31_30 (go_lstoreN (pc := 31) (L' := [.val (.ref 1), .val (.long (k_rangeMask (gI s 9) (gI s 10))), .second, .val (.long ((gL s 3) &&& (k_rangeMask (gI s 9) (gI s 10)))), .second]) d31_31 rfl (go_lloadN (pc := 32) d31_32 rfl (go_lconst (pc := 33) d31_33 cl_0 ?_)))))))
    refine go_lcmp (pc := 34) d31_34 ?_
    by_cases h2 : ((gL s 3) &&& (k_rangeMask (gI s 9) (gI s 10))) = (0 : Int64)
    · replace hf := (if_pos h2).symm.trans hf
      refine go_ifN (pc := 35) d31_35 (XT.ll_ne_f h2) ?_
      refine go_aloadN (pc := 38) d31_38 rfl (go_aloadN (pc := 39) d31_39 rfl (go_getI (pc := 40) fs_107 hm_31 d31_40 (go_putI (pc := 43) fs_104 hm_31 (wr_9 _) hn_31 d31_43 (go_goto (pc := 46) (pc' := 58) d31_46 j_46_12 ?_))))
      cases hf
      exact go_ret (pc := 58) rfl d31_58
    · replace hf := (if_neg h2).symm.trans hf
      refine go_ifY (pc := 35) (pc' := 49) d31_35 (XT.ll_ne_t h2) j_35_14 ?_
      refine go_aloadN (pc := 49) d31_49 rfl (go_aloadN (pc := 50) d31_50 rfl (go_lloadN (pc := 51) d31_51 rfl ?_))
      refine go_priv (pc := 52) (i := 0) (as := [.long ((gL s 3) &&& (k_rangeMask (gI s 9) (gI s 10)))]) (rest := [.ref 1]) (w' := (none, [(8, s)])) lk_0_58 pd_7 rfl oid_0 rfl rfl rfl rfl rfl rfl ⟨rfl, rfl, rfl, rfl, rfl⟩ d31_52 (c_k_lowestBit ((gL s 3) &&& (k_rangeMask (gI s 9) (gI s 10))) s) ?_
      refine go_putI (pc := 55) fs_104 hm_31 (wr_9 _) hn_31 d31_55 ?_
      cases hf
      exact go_ret (pc := 58) rfl d31_58
  · replace hf := (if_neg h1).symm.trans hf
    refine go_icN (pc := 8) d31_8 (XT.ii_lt_f h1) ?_
    cases hf
    exact go_ret (pc := 11) rfl d31_11
theorem c_k_advanceMigrateScanner (s : S) : Call PP m31 [.ref 1] (none, [(8, s)]) (none, (none, [(8, (k_advanceMigrateScanner s))])) := call_of_go pl_0 rfl (fun _ => rfl) (k_advanceMigrateScanner_ok s   _ rfl)
set_option maxRecDepth 65536 in
set_option maxHeartbeats 4000000 in
theorem k_highestBit_109_ok  {s : S} : ∀ (v3 : Int32) (v4 : Int64)  (x1 : Slot) (x2 : Slot) (hx1 : k2 x1 x2) (o : Int32), k_highestBit_109 v3 v4 = o → Go PP m32 109 [.val (.ref 1), x1, x2, .val (.int v3), .val (.long v4), .second] [] (none, [(8, s)]) (some (.int o), (none, [(8, s)])) := by
  intro v3 v4 x1 x2 hx1 o hf
  unfold k_highestBit_109 at hf
  refine go_lload (pc := 109) d32_109 rfl (go_iconst (pc := 111) d32_111 ci_1 (go_lushr (pc := 112) d32_112 (go_lconst (pc := 113) d32_113 cl_0 (go_lcmp (pc := 114) d32_114 ?_))))
  by_cases h2 : (XT.ushrL v4 (1 : Int32)) = (0 : Int64)
  · replace hf := (if_pos h2).symm.trans hf
    refine go_ifY (pc := 115) (pc' := 121) d32_115 (XT.ll_eq_t h2) j_115_6 ?_
    refine go_iloadN (pc := 121) d32_121 rfl ?_
    cases hf
    exact go_iret (pc := 122) rfl d32_122
  · replace hf := (if_neg h2).symm.trans hf
    refine go_ifN (pc := 115) d32_115 (XT.ll_eq_f h2) ?_
    refine go_iinc (pc := 118) (L' := [.val (.ref 1), x1, x2, .val (.int (v3 + (1 : Int32))), .val (.long v4), .second]) d32_118 rfl ci_1 rfl (go_iloadN (pc := 121) d32_121 rfl ?_)
    cases hf
    exact go_iret (pc := 122) rfl d32_122
set_option maxRecDepth 65536 in
set_option maxHeartbeats 4000000 in
theorem k_highestBit_91_ok  {s : S} : ∀ (v3 : Int32) (v4 : Int64)  (x1 : Slot) (x2 : Slot) (hx1 : k2 x1 x2) (o : Int32), k_highestBit_91 v3 v4 = o → Go PP m32 91 [.val (.ref 1), x1, x2, .val (.int v3), .val (.long v4), .second] [] (none, [(8, s)]) (some (.int o), (none, [(8, s)])) := by
  intro v3 v4 x1 x2 hx1 o hf
  unfold k_highestBit_91 at hf
  refine go_lload (pc := 91) d32_91 rfl (go_iconst (pc := 93) d32_93 ci_2 (go_lushr (pc := 94) d32_94 (go_lconst (pc := 95) d32_95 cl_0 (go_lcmp (pc := 96) d32_96 ?_))))
  by_cases h1 : (XT.ushrL v4 (2 : Int32)) = (0 : Int64)
  · refine go_ifY (pc := 97) (pc' := 109) d32_97 (XT.ll_eq_t h1) j_97_12 ?_
    exact k_highestBit_109_ok v3 v4 x1 x2 hx1 _ (by simpa only [if_pos h1] using hf)
  · refine go_ifN (pc := 97) d32_97 (XT.ll_eq_f h1) ?_
    refine go_iinc (pc := 100) (L' := [.val (.ref 1), x1, x2, .val (.int (v3 + (2 : Int32))), .val (.long v4), .second]) d32_100 rfl ci_2 rfl (go_lload (pc := 103) d32_103 rfl (go_iconst (pc := 105) d32_105 ci_2 (go_lushr (pc := 106) d32_106 (go_lstore (pc := 107) (L' := [.val (.ref 1), x1, x2, .val (.int (v3 + (2 : Int32))), .val (.long (XT.ushrL v4 (2 : Int32))), .second]) d32_107 rfl ?_))))
    exact k_highestBit_109_ok (v3 + (2 : Int32)) (XT.ushrL v4 (2 : Int32)) x1 x2 hx1 _ (by simpa only [if_neg h1] using hf)
set_option maxRecDepth 65536 in
set_option maxHeartbeats 4000000 in
theorem k_highestBit_73_ok  {s : S} : ∀ (v3 : Int32) (v4 : Int64)  (x1 : Slot) (x2 : Slot) (hx1 : k2 x1 x2) (o : Int32), k_highestBit_73 v3 v4 = o → Go PP m32 73 [.val (.ref 1), x1, x2, .val (.int v3), .val (.long v4), .second] [] (none, [(8, s)]) (some (.int o), (none, [(8, s)])) := by
  intro v3 v4 x1 x2 hx1 o hf
  unfold k_highestBit_73 at hf
  refine go_lload (pc := 73) d32_73 rfl (go_iconst (pc := 75) d32_75 ci_4 (go_lushr (pc := 76) d32_76 (go_lconst (pc := 77) d32_77 cl_0 (go_lcmp (pc := 78) d32_78 ?_))))
  by_cases h1 : (XT.ushrL v4 (4 : Int32)) = (0 : Int64)
  · refine go_ifY (pc := 79) (pc' := 91) d32_79 (XT.ll_eq_t h1) j_79_12 ?_
    exact k_highestBit_91_ok v3 v4 x1 x2 hx1 _ (by simpa only [if_pos h1] using hf)
  · refine go_ifN (pc := 79) d32_79 (XT.ll_eq_f h1) ?_
    refine go_iinc (pc := 82) (L' := [.val (.ref 1), x1, x2, .val (.int (v3 + (4 : Int32))), .val (.long v4), .second]) d32_82 rfl ci_4 rfl (go_lload (pc := 85) d32_85 rfl (go_iconst (pc := 87) d32_87 ci_4 (go_lushr (pc := 88) d32_88 (go_lstore (pc := 89) (L' := [.val (.ref 1), x1, x2, .val (.int (v3 + (4 : Int32))), .val (.long (XT.ushrL v4 (4 : Int32))), .second]) d32_89 rfl ?_))))
    exact k_highestBit_91_ok (v3 + (4 : Int32)) (XT.ushrL v4 (4 : Int32)) x1 x2 hx1 _ (by simpa only [if_neg h1] using hf)
set_option maxRecDepth 65536 in
set_option maxHeartbeats 4000000 in
theorem k_highestBit_53_ok  {s : S} : ∀ (v3 : Int32) (v4 : Int64)  (x1 : Slot) (x2 : Slot) (hx1 : k2 x1 x2) (o : Int32), k_highestBit_53 v3 v4 = o → Go PP m32 53 [.val (.ref 1), x1, x2, .val (.int v3), .val (.long v4), .second] [] (none, [(8, s)]) (some (.int o), (none, [(8, s)])) := by
  intro v3 v4 x1 x2 hx1 o hf
  unfold k_highestBit_53 at hf
  refine go_lload (pc := 53) d32_53 rfl (go_bipush (pc := 55) d32_55 cb_8 (go_lushr (pc := 57) d32_57 (go_lconst (pc := 58) d32_58 cl_0 (go_lcmp (pc := 59) d32_59 ?_))))
  by_cases h1 : (XT.ushrL v4 (8 : Int32)) = (0 : Int64)
  · refine go_ifY (pc := 60) (pc' := 73) d32_60 (XT.ll_eq_t h1) j_60_13 ?_
    exact k_highestBit_73_ok v3 v4 x1 x2 hx1 _ (by simpa only [if_pos h1] using hf)
  · refine go_ifN (pc := 60) d32_60 (XT.ll_eq_f h1) ?_
    refine go_iinc (pc := 63) (L' := [.val (.ref 1), x1, x2, .val (.int (v3 + (8 : Int32))), .val (.long v4), .second]) d32_63 rfl ci_8 rfl (go_lload (pc := 66) d32_66 rfl (go_bipush (pc := 68) d32_68 cb_8 (go_lushr (pc := 70) d32_70 (go_lstore (pc := 71) (L' := [.val (.ref 1), x1, x2, .val (.int (v3 + (8 : Int32))), .val (.long (XT.ushrL v4 (8 : Int32))), .second]) d32_71 rfl ?_))))
    exact k_highestBit_73_ok (v3 + (8 : Int32)) (XT.ushrL v4 (8 : Int32)) x1 x2 hx1 _ (by simpa only [if_neg h1] using hf)
set_option maxRecDepth 65536 in
set_option maxHeartbeats 4000000 in
theorem k_highestBit_33_ok  {s : S} : ∀ (v3 : Int32) (v4 : Int64)  (x1 : Slot) (x2 : Slot) (hx1 : k2 x1 x2) (o : Int32), k_highestBit_33 v3 v4 = o → Go PP m32 33 [.val (.ref 1), x1, x2, .val (.int v3), .val (.long v4), .second] [] (none, [(8, s)]) (some (.int o), (none, [(8, s)])) := by
  intro v3 v4 x1 x2 hx1 o hf
  unfold k_highestBit_33 at hf
  refine go_lload (pc := 33) d32_33 rfl (go_bipush (pc := 35) d32_35 cb_16 (go_lushr (pc := 37) d32_37 (go_lconst (pc := 38) d32_38 cl_0 (go_lcmp (pc := 39) d32_39 ?_))))
  by_cases h1 : (XT.ushrL v4 (16 : Int32)) = (0 : Int64)
  · refine go_ifY (pc := 40) (pc' := 53) d32_40 (XT.ll_eq_t h1) j_40_13 ?_
    exact k_highestBit_53_ok v3 v4 x1 x2 hx1 _ (by simpa only [if_pos h1] using hf)
  · refine go_ifN (pc := 40) d32_40 (XT.ll_eq_f h1) ?_
    refine go_iinc (pc := 43) (L' := [.val (.ref 1), x1, x2, .val (.int (v3 + (16 : Int32))), .val (.long v4), .second]) d32_43 rfl ci_16 rfl (go_lload (pc := 46) d32_46 rfl (go_bipush (pc := 48) d32_48 cb_16 (go_lushr (pc := 50) d32_50 (go_lstore (pc := 51) (L' := [.val (.ref 1), x1, x2, .val (.int (v3 + (16 : Int32))), .val (.long (XT.ushrL v4 (16 : Int32))), .second]) d32_51 rfl ?_))))
    exact k_highestBit_53_ok (v3 + (16 : Int32)) (XT.ushrL v4 (16 : Int32)) x1 x2 hx1 _ (by simpa only [if_neg h1] using hf)
set_option maxRecDepth 65536 in
set_option maxHeartbeats 4000000 in
theorem k_highestBit_ok  {s : S} : ∀ (v1 : Int64)   (o : Int32), k_highestBit v1 = o → Go PP m32 0 [.val (.ref 1), .val (.long v1), .second, .unset, .unset, .unset] [] (none, [(8, s)]) (some (.int o), (none, [(8, s)])) := by
  intro v1 o hf
  unfold k_highestBit at hf
  refine go_lloadN (pc := 0) d32_0 rfl (go_lconst (pc := 1) d32_1 cl_0 (go_lcmp (pc := 2) d32_2 ?_))
  by_cases h1 : v1 = (0 : Int64)
  · replace hf := (if_pos h1).symm.trans hf
    refine go_ifN (pc := 3) d32_3 (XT.ll_ne_f h1) ?_
    refine go_iconst (pc := 6) d32_6 ci_m1 ?_
    cases hf
    exact go_iret (pc := 7) rfl d32_7
  · replace hf := (if_neg h1).symm.trans hf
    refine go_ifY (pc := 3) (pc' := 8) d32_3 (XT.ll_ne_t h1) j_3_5 ?_
    refine go_iconst (pc := 8) d32_8 ci_0 (go_istoreN (pc := 9) (L' := [.val (.ref 1), .val (.long v1), .second, .val (.int (0 : Int32)), .unset, .unset]) d32_9 rfl (go_lloadN (pc := 10) d32_10 rfl (go_lstore (pc := 11) (L' := [.val (.ref 1), .val (.long v1), .second, .val (.int (0 : Int32)), .val (.long v1), .second]) d32_11 rfl (go_lload (pc := 13) d32_13 rfl (go_bipush (pc := 15) d32_15 cb_32 (go_lushr (pc := 17) d32_17 (go_lconst (pc := 18) d32_18 cl_0 ?_)))))))
    refine go_lcmp (pc := 19) d32_19 ?_
    by_cases h2 : (XT.ushrL v1 (32 : Int32)) = (0 : Int64)
    · refine go_ifY (pc := 20) (pc' := 33) d32_20 (XT.ll_eq_t h2) j_20_13 ?_
      exact k_highestBit_33_ok (0 : Int32) v1 (.val (.long v1)) .second (Or.inr ⟨_, rfl, rfl⟩) _ (by simpa only [if_pos h2] using hf)
    · refine go_ifN (pc := 20) d32_20 (XT.ll_eq_f h2) ?_
      refine go_iinc (pc := 23) (L' := [.val (.ref 1), .val (.long v1), .second, .val (.int ((0 : Int32) + (32 : Int32))), .val (.long v1), .second]) d32_23 rfl ci_32 rfl (go_lload (pc := 26) d32_26 rfl (go_bipush (pc := 28) d32_28 cb_32 (go_lushr (pc := 30) d32_30 (go_lstore (pc := 31) (L' := [.val (.ref 1), .val (.long v1), .second, .val (.int ((0 : Int32) + (32 : Int32))), .val (.long (XT.ushrL v1 (32 : Int32))), .second]) d32_31 rfl ?_))))
      exact k_highestBit_33_ok ((0 : Int32) + (32 : Int32)) (XT.ushrL v1 (32 : Int32)) (.val (.long v1)) .second (Or.inr ⟨_, rfl, rfl⟩) _ (by simpa only [if_neg h2] using hf)
theorem c_k_highestBit (v1 : Int64) (s : S) : Call PP m32 [.ref 1, .long v1] (none, [(8, s)]) (some (.int (k_highestBit v1)), (none, [(8, s)])) := call_of_go pl_0 rfl (fun h => nomatch h) (k_highestBit_ok v1   _ rfl)
set_option maxRecDepth 65536 in
set_option maxHeartbeats 4000000 in
theorem k_retreatFreeScanner_ok  : ∀  (s : S)  (o : S), k_retreatFreeScanner s = o → Go PP m33 0 [.val (.ref 1), .unset, .unset, .unset, .unset] [] (none, [(8, s)]) (none, (none, [(8, o)])) := by
  intro s o hf
  unfold k_retreatFreeScanner at hf
  refine go_aloadN (pc := 0) d33_0 rfl (go_getI (pc := 1) fs_107 hm_33 d33_1 (go_aloadN (pc := 4) d33_4 rfl (go_getI (pc := 5) fs_104 hm_33 d33_5 ?_)))
  by_cases h1 : (gI s 9) < (gI s 10)
  · replace hf := (if_pos h1).symm.trans hf
    refine go_icY (pc := 8) (pc' := 12) d33_8 (XT.ii_gt_t h1) j_8_4 ?_
    refine go_aloadN (pc := 12) d33_12 rfl (go_aloadN (pc := 13) d33_13 rfl (go_getI (pc := 14) fs_104 hm_33 d33_14 (go_iconst (pc := 17) d33_17 ci_1 (go_iadd (pc := 18) d33_18 (go_aloadN (pc := 19) d33_19 rfl (go_getI (pc := 20) fs_107 hm_33 d33_20 (go_iconst (pc := 23) d33_23 ci_1 ?_)))))))
    refine go_iadd (pc := 24) d33_24 ?_
    refine go_priv (pc := 25) (i := 0) (as := [.int ((gI s 9) + (1 : Int32)), .int ((gI s 10) + (1 : Int32))]) (rest := []) (w' := (none, [(8, s)])) lk_0_172 pd_30 rfl oid_0 rfl rfl rfl rfl rfl rfl ⟨rfl, rfl, rfl, rfl, rfl⟩ d33_25 (c_k_rangeMask ((gI s 9) + (1 : Int32)) ((gI s 10) + (1 : Int32)) s) ?_
    refine go_lstoreN (pc := 28) (L' := [.val (.ref 1), .val (.long (k_rangeMask ((gI s 9) + (1 : Int32)) ((gI s 10) + (1 : Int32)))), .second, .unset, .unset]) d33_28 rfl (go_aloadN (pc := 29) d33_29 rfl (go_getJ (pc := 30) fs_54 hm_33 d33_30 (go_lloadN (pc := 33) d33_33 rfl (go_land (pc := 34) d33_34 (go_lstoreN (pc := 35) (L' := [.val (.ref 1), .val (.long (k_rangeMask ((gI s 9) + (1 : Int32)) ((gI s 10) + (1 : Int32)))), .second, .val (.long ((gL s 2) &&& (k_rangeMask ((gI s 9) + (1 : Int32)) ((gI s 10) + (1 : Int32))))), .second]) d33_35 rfl (go_lloadN (pc := 36) d33_36 rfl (go_lconst (pc := 37) d33_37 cl_0 ?_)))))))
    refine go_lcmp (pc := 38) d33_38 ?_
    by_cases h2 : ((gL s 2) &&& (k_rangeMask ((gI s 9) + (1 : Int32)) ((gI s 10) + (1 : Int32)))) = (0 : Int64)
    · replace hf := (if_pos h2).symm.trans hf
      refine go_ifN (pc := 39) d33_39 (XT.ll_ne_f h2) ?_
      refine go_aloadN (pc := 42) d33_42 rfl (go_aloadN (pc := 43) d33_43 rfl (go_getI (pc := 44) fs_104 hm_33 d33_44 (go_putI (pc := 47) fs_107 hm_33 (wr_10 _) hn_33 d33_47 (go_goto (pc := 50) (pc' := 62) d33_50 j_50_12 ?_))))
      cases hf
      exact go_ret (pc := 62) rfl d33_62
    · replace hf := (if_neg h2).symm.trans hf
      refine go_ifY (pc := 39) (pc' := 53) d33_39 (XT.ll_ne_t h2) j_39_14 ?_
      refine go_aloadN (pc := 53) d33_53 rfl (go_aloadN (pc := 54) d33_54 rfl (go_lloadN (pc := 55) d33_55 rfl ?_))
      refine go_priv (pc := 56) (i := 0) (as := [.long ((gL s 2) &&& (k_rangeMask ((gI s 9) + (1 : Int32)) ((gI s 10) + (1 : Int32))))]) (rest := [.ref 1]) (w' := (none, [(8, s)])) lk_0_176 pd_32 rfl oid_0 rfl rfl rfl rfl rfl rfl ⟨rfl, rfl, rfl, rfl, rfl⟩ d33_56 (c_k_highestBit ((gL s 2) &&& (k_rangeMask ((gI s 9) + (1 : Int32)) ((gI s 10) + (1 : Int32)))) s) ?_
      refine go_putI (pc := 59) fs_107 hm_33 (wr_10 _) hn_33 d33_59 ?_
      cases hf
      exact go_ret (pc := 62) rfl d33_62
  · replace hf := (if_neg h1).symm.trans hf
    refine go_icN (pc := 8) d33_8 (XT.ii_gt_f h1) ?_
    cases hf
    exact go_ret (pc := 11) rfl d33_11
theorem c_k_retreatFreeScanner (s : S) : Call PP m33 [.ref 1] (none, [(8, s)]) (none, (none, [(8, (k_retreatFreeScanner s))])) := call_of_go pl_0 rfl (fun _ => rfl) (k_retreatFreeScanner_ok s   _ rfl)
set_option maxRecDepth 65536 in
set_option maxHeartbeats 4000000 in
theorem k_scannersDone_ok  : ∀  (s : S)  (o : Int32), k_scannersDone s = o → Go PP m34 0 [.val (.ref 1)] [] (none, [(8, s)]) (some (.int o), (none, [(8, s)])) := by
  intro s o hf
  unfold k_scannersDone at hf
  refine go_aloadN (pc := 0) d34_0 rfl (go_getI (pc := 1) fs_104 hm_34 d34_1 (go_aloadN (pc := 4) d34_4 rfl (go_getI (pc := 5) fs_107 hm_34 d34_5 ?_)))
  by_cases h1 : (gI s 9) < (gI s 10)
  · replace hf := (if_pos h1).symm.trans hf
    refine go_icY (pc := 8) (pc' := 13) d34_8 (XT.ii_lt_t h1) j_8_5 ?_
    refine go_aloadN (pc := 13) d34_13 rfl (go_getI (pc := 14) fs_101 hm_34 d34_14 (go_aloadN (pc := 17) d34_17 rfl (go_getI (pc := 18) fs_98 hm_34 d34_18 ?_)))
    by_cases h2 : (gI s 8) = (gI s 7)
    · replace hf := (if_pos h2).symm.trans hf
      refine go_icN (pc := 21) d34_21 (XT.ii_ne_f h2) ?_
      refine go_iconst (pc := 24) d34_24 ci_1 (go_goto (pc := 25) (pc' := 29) d34_25 j_25_4 ?_)
      cases hf
      exact go_zret (pc := 29) rfl d34_29 (show (1 : Int32) = nar .boolean (1 : Int32) by decide)
    · replace hf := (if_neg h2).symm.trans hf
      refine go_icY (pc := 21) (pc' := 28) d34_21 (XT.ii_ne_t h2) j_21_7 ?_
      refine go_iconst (pc := 28) d34_28 ci_0 ?_
      cases hf
      exact go_zret (pc := 29) rfl d34_29 (show (0 : Int32) = nar .boolean (0 : Int32) by decide)
  · replace hf := (if_neg h1).symm.trans hf
    refine go_icN (pc := 8) d34_8 (XT.ii_lt_f h1) ?_
    refine go_iconst (pc := 11) d34_11 ci_1 ?_
    cases hf
    exact go_zret (pc := 12) rfl d34_12 (show (1 : Int32) = nar .boolean (1 : Int32) by decide)
theorem c_k_scannersDone (s : S) : Call PP m34 [.ref 1] (none, [(8, s)]) (some (.int (k_scannersDone s)), (none, [(8, s)])) := call_of_go pl_0 rfl (fun h => nomatch h) (k_scannersDone_ok s   _ rfl)
set_option maxRecDepth 65536 in
set_option maxHeartbeats 4000000 in
theorem k_rmapTransfer_47_ok  : ∀ (v1 : Int32) (v2 : Int32) (s : S) (x3 : Slot) (x4 : Slot) (hx3 : k1 x3) (hx4 : k1 x4) (o : S), k_rmapTransfer_47 v1 v2 s = some o → Go PP m35 47 [.val (.ref 1), .val (.int v1), .val (.int v2), x3, x4] [] (none, [(8, s)]) (none, (none, [(8, o)])) := by
  intro v1 v2 s x3 x4 hx3 hx4 o hf
  unfold k_rmapTransfer_47 at hf
  refine go_aloadN (pc := 47) d35_47 rfl (go_getA (pc := 48) fa_23 hm_35 d35_48 rfl (go_iloadN (pc := 51) d35_51 rfl (go_aloadN (pc := 52) d35_52 rfl (go_getA (pc := 53) fa_23 hm_35 d35_53 rfl (go_iloadN (pc := 56) d35_56 rfl ?_)))))
  obtain ⟨a57, e1, hf⟩ := Option.bind_eq_some_iff.mp hf
  refine go_iaload (pc := 57) (q := 4) ar_4 rfl e1 d35_57 ?_
  obtain ⟨a58, e2, hf⟩ := Option.bind_eq_some_iff.mp hf
  refine go_iastore (pc := 58) (q := 4) ar_4 rfl hn_35 e2 d35_58 ?_
  refine go_aloadN (pc := 59) d35_59 rfl (go_getA (pc := 60) fa_23 hm_35 d35_60 rfl (go_iloadN (pc := 63) d35_63 rfl (go_iconst (pc := 64) d35_64 ci_m1 ?_)))
  obtain ⟨a65, e3, hf⟩ := Option.bind_eq_some_iff.mp hf
  refine go_iastore (pc := 65) (q := 4) ar_4 rfl hn_35 e3 d35_65 ?_
  cases hf
  exact go_ret (pc := 66) rfl d35_66
set_option maxRecDepth 65536 in
set_option maxHeartbeats 4000000 in
theorem k_rmapTransfer_10_ok  : ∀ (n : Nat) (v1 : Int32) (v2 : Int32) (v3 : Int32) (v4 : Int32) (s : S)  (o : S), k_rmapTransfer_10 n v1 v2 v3 v4 s = some o → Go PP m35 10 [.val (.ref 1), .val (.int v1), .val (.int v2), .val (.int v3), .val (.int v4)] [] (none, [(8, s)]) (none, (none, [(8, o)])) := by
  intro n
  induction n with
  | zero => intro v1 v2 v3 v4 s o hf; exact nomatch hf
  | succ n ih =>
    intro v1 v2 v3 v4 s o hf
    unfold k_rmapTransfer_10 at hf
    refine go_iload (pc := 10) d35_10 rfl (go_bipush (pc := 12) d35_12 cb_64 ?_)
    by_cases h1 : v4 < (64 : Int32)
    · replace hf := (if_pos h1).symm.trans hf
      refine go_icN (pc := 14) d35_14 (XT.ii_ge_f h1) ?_
      refine go_iloadN (pc := 17) d35_17 rfl ?_
      by_cases h2 : v3 < 0
      · replace hf := (if_pos h2).symm.trans hf
        refine go_ifY (pc := 18) (pc' := 47) d35_18 (XT.i0_lt_t h2) j_18_29 ?_
        exact k_rmapTransfer_47_ok v1 v2 s (.val (.int v3)) (.val (.int v4)) (Or.inr ⟨_, rfl, rfl⟩) (Or.inr ⟨_, rfl, rfl⟩) _ hf
      · replace hf := (if_neg h2).symm.trans hf
        refine go_ifN (pc := 18) d35_18 (XT.i0_lt_f h2) ?_
        refine go_iloadN (pc := 21) d35_21 rfl (go_bipush (pc := 22) d35_22 cb_64 ?_)
        by_cases h3 : v3 < (64 : Int32)
        · replace hf := (if_pos h3).symm.trans hf
          refine go_icN (pc := 24) d35_24 (XT.ii_ge_f h3) ?_
          refine go_aloadN (pc := 27) d35_27 rfl (go_getA (pc := 28) fa_20 hm_35 d35_28 rfl (go_iloadN (pc := 31) d35_31 rfl (go_iloadN (pc := 32) d35_32 rfl ?_)))
          obtain ⟨a33, e4, hf⟩ := Option.bind_eq_some_iff.mp hf
          refine go_iastore (pc := 33) (q := 3) ar_3 rfl hn_35 e4 d35_33 ?_
          refine go_aloadN (pc := 34) d35_34 rfl (go_getA (pc := 35) fa_26 hm_35 d35_35 rfl (go_iloadN (pc := 38) d35_38 rfl ?_))
          obtain ⟨a39, e5, hf⟩ := Option.bind_eq_some_iff.mp hf
          refine go_iaload (pc := 39) (q := 5) ar_5 rfl e5 d35_39 ?_
          refine go_istoreN (pc := 40) (L' := [.val (.ref 1), .val (.int v1), .val (.int v2), .val (.int a39), .val (.int v4)]) d35_40 rfl (go_iinc (pc := 41) (L' := [.val (.ref 1), .val (.int v1), .val (.int v2), .val (.int a39), .val (.int (v4 + (1 : Int32)))]) d35_41 rfl ci_1 rfl (go_goto (pc := 44) (pc' := 10) d35_44 j_44_m34 ?_))
          exact ih v1 v2 a39 (v4 + (1 : Int32)) (sA s 3 a33) _ hf
        · replace hf := (if_neg h3).symm.trans hf
          refine go_icY (pc := 24) (pc' := 47) d35_24 (XT.ii_ge_t h3) j_24_23 ?_
          exact k_rmapTransfer_47_ok v1 v2 s (.val (.int v3)) (.val (.int v4)) (Or.inr ⟨_, rfl, rfl⟩) (Or.inr ⟨_, rfl, rfl⟩) _ hf
    · replace hf := (if_neg h1).symm.trans hf
      refine go_icY (pc := 14) (pc' := 47) d35_14 (XT.ii_ge_t h1) j_14_33 ?_
      exact k_rmapTransfer_47_ok v1 v2 s (.val (.int v3)) (.val (.int v4)) (Or.inr ⟨_, rfl, rfl⟩) (Or.inr ⟨_, rfl, rfl⟩) _ hf
set_option maxRecDepth 65536 in
set_option maxHeartbeats 4000000 in
theorem k_rmapTransfer_ok  : ∀ (v1 : Int32) (v2 : Int32) (s : S)  (o : S), k_rmapTransfer v1 v2 s = some o → Go PP m35 0 [.val (.ref 1), .val (.int v1), .val (.int v2), .unset, .unset] [] (none, [(8, s)]) (none, (none, [(8, o)])) := by
  intro v1 v2 s o hf
  unfold k_rmapTransfer at hf
  refine go_aloadN (pc := 0) d35_0 rfl (go_getA (pc := 1) fa_23 hm_35 d35_1 rfl (go_iloadN (pc := 4) d35_4 rfl ?_))
  obtain ⟨a5, e1, hf⟩ := Option.bind_eq_some_iff.mp hf
  refine go_iaload (pc := 5) (q := 4) ar_4 rfl e1 d35_5 ?_
  refine go_istoreN (pc := 6) (L' := [.val (.ref 1), .val (.int v1), .val (.int v2), .val (.int a5), .unset]) d35_6 rfl (go_iconst (pc := 7) d35_7 ci_0 (go_istore (pc := 8) (L' := [.val (.ref 1), .val (.int v1), .val (.int v2), .val (.int a5), .val (.int (0 : Int32))]) d35_8 rfl ?_))
  exact k_rmapTransfer_10_ok BIG v1 v2 a5 (0 : Int32) s _ hf
theorem c_k_rmapTransfer (v1 : Int32) (v2 : Int32) (s : S) (o : S) (hf : k_rmapTransfer v1 v2 s = some o) : Call PP m35 [.ref 1, .int v1, .int v2] (none, [(8, s)]) (none, (none, [(8, o)])) := call_of_go pl_0 rfl (fun _ => rfl) (k_rmapTransfer_ok v1 v2 s   _ hf)
set_option maxRecDepth 65536 in
set_option maxHeartbeats 4000000 in
theorem k_migrateFrame_ok  : ∀ (v1 : Int32) (v2 : Int32) (s : S)  (o : S), k_migrateFrame v1 v2 s = some o → Go PP m36 0 [.val (.ref 1), .val (.int v1), .val (.int v2), .unset, .unset] [] (none, [(8, s)]) (none, (none, [(8, o)])) := by
  intro v1 v2 s o hf
  unfold k_migrateFrame at hf
  refine go_aloadN (pc := 0) d36_0 rfl (go_iloadN (pc := 1) d36_1 rfl ?_)
  refine go_priv (pc := 2) (i := 0) (as := [.int v1]) (rest := []) (w' := (none, [(8, s)])) lk_0_62 pd_8 rfl oid_0 rfl rfl rfl rfl rfl rfl ⟨rfl, rfl, rfl, rfl, rfl⟩ d36_2 (c_k_frameInRange v1 s) ?_
  by_cases h1 : (k_frameInRange v1 s) = 0
  · replace hf := (if_pos h1).symm.trans hf
    refine go_ifY (pc := 5) (pc' := 16) d36_5 (XT.i0_eq_t h1) j_5_11 ?_
    cases hf
    exact go_ret (pc := 16) rfl d36_16
  · replace hf := (if_neg h1).symm.trans hf
    refine go_ifN (pc := 5) d36_5 (XT.i0_eq_f h1) ?_
    refine go_aloadN (pc := 8) d36_8 rfl (go_iloadN (pc := 9) d36_9 rfl ?_)
    refine go_priv (pc := 10) (i := 0) (as := [.int v2]) (rest := []) (w' := (none, [(8, s)])) lk_0_62 pd_8 rfl oid_0 rfl rfl rfl rfl rfl rfl ⟨rfl, rfl, rfl, rfl, rfl⟩ d36_10 (c_k_frameInRange v2 s) ?_
    by_cases h2 : (k_frameInRange v2 s) = 0
    · replace hf := (if_pos h2).symm.trans hf
      refine go_ifN (pc := 13) d36_13 (XT.i0_ne_f h2) ?_
      cases hf
      exact go_ret (pc := 16) rfl d36_16
    · replace hf := (if_neg h2).symm.trans hf
      refine go_ifY (pc := 13) (pc' := 17) d36_13 (XT.i0_ne_t h2) j_13_4 ?_
      refine go_aloadN (pc := 17) d36_17 rfl (go_getA (pc := 18) fa_7 hm_36 d36_18 rfl (go_iloadN (pc := 21) d36_21 rfl ?_))
      obtain ⟨a22, e3, hf⟩ := Option.bind_eq_some_iff.mp hf
      refine go_baload (pc := 22) (q := 0) ar_0 (by decide) rfl e3 d36_22 ?_
      refine go_iconst (pc := 23) d36_23 ci_1 ?_
      by_cases h4 : a22 = (1 : Int32)
      · replace hf := (if_pos h4).symm.trans hf
        refine go_icN (pc := 24) d36_24 (XT.ii_ne_f h4) ?_
        refine go_aloadN (pc := 27) d36_27 rfl (go_getA (pc := 28) fa_7 hm_36 d36_28 rfl (go_iloadN (pc := 31) d36_31 rfl ?_))
        obtain ⟨a32, e5, hf⟩ := Option.bind_eq_some_iff.mp hf
        refine go_baload (pc := 32) (q := 0) ar_0 (by decide) rfl e5 d36_32 ?_
        by_cases h6 : a32 = 0
        · replace hf := (if_pos h6).symm.trans hf
          refine go_ifY (pc := 33) (pc' := 37) d36_33 (XT.i0_eq_t h6) j_33_4 ?_
          refine go_aloadN (pc := 37) d36_37 rfl (go_getA (pc := 38) fa_13 hm_36 d36_38 rfl (go_iloadN (pc := 41) d36_41 rfl ?_))
          obtain ⟨a42, e7, hf⟩ := Option.bind_eq_some_iff.mp hf
          refine go_iaload (pc := 42) (q := 1) ar_1 rfl e7 d36_42 ?_
          refine go_istoreN (pc := 43) (L' := [.val (.ref 1), .val (.int v1), .val (.int v2), .val (.int a42), .unset]) d36_43 rfl (go_aloadN (pc := 44) d36_44 rfl (go_getA (pc := 45) fa_17 hm_36 d36_45 rfl (go_iloadN (pc := 48) d36_48 rfl ?_)))
          obtain ⟨a49, e8, hf⟩ := Option.bind_eq_some_iff.mp hf
          refine go_iaload (pc := 49) (q := 2) ar_2 rfl e8 d36_49 ?_
          refine go_istore (pc := 50) (L' := [.val (.ref 1), .val (.int v1), .val (.int v2), .val (.int a42), .val (.int a49)]) d36_50 rfl (go_aloadN (pc := 52) d36_52 rfl (go_iloadN (pc := 53) d36_53 rfl (go_iconst (pc := 54) d36_54 ci_1 ?_)))
          obtain ⟨r55, e9, hf⟩ := Option.bind_eq_some_iff.mp hf
          refine go_priv (pc := 55) (i := 0) (as := [.int v2, .int (1 : Int32)]) (rest := []) (w' := (none, [(8, r55)])) lk_0_69 pd_10 rfl oid_0 rfl rfl rfl rfl rfl rfl ⟨rfl, rfl, rfl, rfl, rfl⟩ d36_55 (c_k_enterState v2 (1 : Int32) s _ e9) ?_
          refine go_aloadN (pc := 58) d36_58 rfl (go_getA (pc := 59) fa_13 hm_36 d36_59 rfl (go_iloadN (pc := 62) d36_62 rfl (go_iloadN (pc := 63) d36_63 rfl ?_)))
          obtain ⟨a64, e10, hf⟩ := Option.bind_eq_some_iff.mp hf
          refine go_iastore (pc := 64) (q := 1) ar_1 rfl hn_36 e10 d36_64 ?_
          refine go_aloadN (pc := 65) d36_65 rfl (go_getA (pc := 66) fa_17 hm_36 d36_66 rfl (go_iloadN (pc := 69) d36_69 rfl (go_iload (pc := 70) d36_70 rfl ?_)))
          obtain ⟨a72, e11, hf⟩ := Option.bind_eq_some_iff.mp hf
          refine go_iastore (pc := 72) (q := 2) ar_2 rfl hn_36 e11 d36_72 ?_
          refine go_aloadN (pc := 73) d36_73 rfl (go_iloadN (pc := 74) d36_74 rfl (go_iloadN (pc := 75) d36_75 rfl ?_))
          obtain ⟨r76, e12, hf⟩ := Option.bind_eq_some_iff.mp hf
          refine go_priv (pc := 76) (i := 0) (as := [.int v1, .int v2]) (rest := []) (w' := (none, [(8, r76)])) lk_0_179 pd_35 rfl oid_0 rfl rfl rfl rfl rfl rfl ⟨rfl, rfl, rfl, rfl, rfl⟩ d36_76 (c_k_rmapTransfer v1 v2 (sA (sA r55 1 a64) 2 a72) _ e12) ?_
          refine go_aloadN (pc := 79) d36_79 rfl (go_iloadN (pc := 80) d36_80 rfl ?_)
          obtain ⟨r81, e13, hf⟩ := Option.bind_eq_some_iff.mp hf
          refine go_priv (pc := 81) (i := 0) (as := [.int v1]) (rest := []) (w' := (none, [(8, r81)])) lk_0_84 pd_17 rfl oid_0 rfl rfl rfl rfl rfl rfl ⟨rfl, rfl, rfl, rfl, rfl⟩ d36_81 (c_k_freeFrame v1 r76 _ e13) ?_
          cases hf
          exact go_ret (pc := 84) rfl d36_84
        · replace hf := (if_neg h6).symm.trans hf
          refine go_ifN (pc := 33) d36_33 (XT.i0_eq_f h6) ?_
          cases hf
          exact go_ret (pc := 36) rfl d36_36
      · replace hf := (if_neg h4).symm.trans hf
        refine go_icY (pc := 24) (pc' := 36) d36_24 (XT.ii_ne_t h4) j_24_12 ?_
        cases hf
        exact go_ret (pc := 36) rfl d36_36
theorem c_k_migrateFrame (v1 : Int32) (v2 : Int32) (s : S) (o : S) (hf : k_migrateFrame v1 v2 s = some o) : Call PP m36 [.ref 1, .int v1, .int v2] (none, [(8, s)]) (none, (none, [(8, o)])) := call_of_go pl_0 rfl (fun _ => rfl) (k_migrateFrame_ok v1 v2 s   _ hf)
set_option maxRecDepth 65536 in
set_option maxHeartbeats 4000000 in
theorem k_compact_34_ok  : ∀ (n : Nat) (v2 : Int32) (s : S) (x1 : Slot) (hx1 : k1 x1) (o : Int32 × S), k_compact_34 n v2 s = some o → Go PP m37 34 [.val (.ref 1), x1, .val (.int v2)] [] (none, [(8, s)]) (some (.int o.1), (none, [(8, o.2)])) := by
  intro n
  induction n with
  | zero => intro v2 s x1 hx1 o hf; exact nomatch hf
  | succ n ih =>
    intro v2 s x1 hx1 o hf
    unfold k_compact_34 at hf
    refine go_iloadN (pc := 34) d37_34 rfl (go_bipush (pc := 35) d37_35 cb_65 ?_)
    by_cases h1 : (65 : Int32) < v2
    · replace hf := (if_pos h1).symm.trans hf
      refine go_icY (pc := 37) (pc' := 106) d37_37 (XT.ii_gt_t h1) j_37_69 ?_
      refine go_aloadN (pc := 106) d37_106 rfl (go_getI (pc := 107) fs_101 hm_37 d37_107 ?_)
      cases hf
      exact go_iret (pc := 110) rfl d37_110
    · replace hf := (if_neg h1).symm.trans hf
      refine go_icN (pc := 37) d37_37 (XT.ii_gt_f h1) ?_
      refine go_aloadN (pc := 40) d37_40 rfl ?_
      refine go_priv (pc := 41) (i := 0) (as := []) (rest := []) (w' := (none, [(8, (k_advanceMigrateScanner s))])) lk_0_110 pd_31 rfl oid_0 rfl rfl rfl rfl rfl rfl ⟨rfl, rfl, rfl, rfl, rfl⟩ d37_41 (c_k_advanceMigrateScanner s) ?_
      refine go_aloadN (pc := 44) d37_44 rfl ?_
      refine go_priv (pc := 45) (i := 0) (as := []) (rest := []) (w' := (none, [(8, (k_retreatFreeScanner (k_advanceMigrateScanner s)))])) lk_0_113 pd_33 rfl oid_0 rfl rfl rfl rfl rfl rfl ⟨rfl, rfl, rfl, rfl, rfl⟩ d37_45 (c_k_retreatFreeScanner (k_advanceMigrateScanner s)) ?_
      refine go_aloadN (pc := 48) d37_48 rfl ?_
      refine go_priv (pc := 49) (i := 0) (as := []) (rest := []) (w' := (none, [(8, (k_retreatFreeScanner (k_advanceMigrateScanner s)))])) lk_0_116 pd_34 rfl oid_0 rfl rfl rfl rfl rfl rfl ⟨rfl, rfl, rfl, rfl, rfl⟩ d37_49 (c_k_scannersDone (k_retreatFreeScanner (k_advanceMigrateScanner s))) ?_
      by_cases h2 : (k_scannersDone (k_retreatFreeScanner (k_advanceMigrateScanner s))) = 0
      · replace hf := (if_pos h2).symm.trans hf
        refine go_ifY (pc := 52) (pc' := 58) d37_52 (XT.i0_eq_t h2) j_52_6 ?_
        refine go_aloadN (pc := 58) d37_58 rfl (go_aloadN (pc := 59) d37_59 rfl (go_getI (pc := 60) fs_104 hm_37 d37_60 (go_aloadN (pc := 63) d37_63 rfl (go_getI (pc := 64) fs_107 hm_37 d37_64 ?_))))
        obtain ⟨r67, e3, hf⟩ := Option.bind_eq_some_iff.mp hf
        refine go_priv (pc := 67) (i := 0) (as := [.int (gI (k_retreatFreeScanner (k_advanceMigrateScanner s)) 9), .int (gI (k_retreatFreeScanner (k_advanceMigrateScanner s)) 10)]) (rest := []) (w' := (none, [(8, r67)])) lk_0_120 pd_36 rfl oid_0 rfl rfl rfl rfl rfl rfl ⟨rfl, rfl, rfl, rfl, rfl⟩ d37_67 (c_k_migrateFrame (gI (k_retreatFreeScanner (k_advanceMigrateScanner s)) 9) (gI (k_retreatFreeScanner (k_advanceMigrateScanner s)) 10) (k_retreatFreeScanner (k_advanceMigrateScanner s)) _ e3) ?_
        refine go_aloadN (pc := 70) d37_70 rfl (go_aloadN (pc := 71) d37_71 rfl (go_getI (pc := 72) fs_101 hm_37 d37_72 (go_iconst (pc := 75) d37_75 ci_1 (go_iadd (pc := 76) d37_76 (go_putI (pc := 77) fs_101 hm_37 (wr_8 _) hn_37 d37_77 (go_aloadN (pc := 80) d37_80 rfl (go_aloadN (pc := 81) d37_81 rfl ?_)))))))
        refine go_getI (pc := 82) fs_104 hm_37 d37_82 (go_iconst (pc := 85) d37_85 ci_1 (go_iadd (pc := 86) d37_86 (go_putI (pc := 87) fs_104 hm_37 (wr_9 _) hn_37 d37_87 (go_aloadN (pc := 90) d37_90 rfl (go_aloadN (pc := 91) d37_91 rfl (go_getI (pc := 92) fs_107 hm_37 d37_92 (go_iconst (pc := 95) d37_95 ci_1 ?_)))))))
        refine go_isub (pc := 96) d37_96 (go_putI (pc := 97) fs_107 hm_37 (wr_10 _) hn_37 d37_97 (go_iinc (pc := 100) (L' := [.val (.ref 1), x1, .val (.int (v2 + (1 : Int32)))]) d37_100 rfl ci_1 rfl (go_goto (pc := 103) (pc' := 34) d37_103 j_103_m69 ?_)))
        exact ih (v2 + (1 : Int32)) (sI (sI (sI r67 8 ((gI r67 8) + (1 : Int32))) 9 ((gI r67 9) + (1 : Int32))) 10 ((gI r67 10) - (1 : Int32))) x1 hx1 _ hf
      · replace hf := (if_neg h2).symm.trans hf
        refine go_ifN (pc := 52) d37_52 (XT.i0_eq_f h2) ?_
        refine go_goto (pc := 55) (pc' := 106) d37_55 j_55_51 (go_aloadN (pc := 106) d37_106 rfl (go_getI (pc := 107) fs_101 hm_37 d37_107 ?_))
        cases hf
        exact go_iret (pc := 110) rfl d37_110
set_option maxRecDepth 65536 in
set_option maxHeartbeats 4000000 in
theorem k_compact_ok  : ∀ (v1 : Int32) (s : S)  (o : Int32 × S), k_compact v1 s = some o → Go PP m37 0 [.val (.ref 1), .val (.int v1), .unset] [] (none, [(8, s)]) (some (.int o.1), (none, [(8, o.2)])) := by
  intro v1 s o hf
  unfold k_compact at hf
  refine go_aloadN (pc := 0) d37_0 rfl (go_aloadN (pc := 1) d37_1 rfl (go_iloadN (pc := 2) d37_2 rfl (go_iconst (pc := 3) d37_3 ci_0 (go_bipush (pc := 4) d37_4 cb_64 ?_))))
  refine go_priv (pc := 6) (i := 0) (as := [.int v1, .int (0 : Int32), .int (64 : Int32)]) (rest := [.ref 1]) (w' := (none, [(8, s)])) lk_0_36 pd_0 rfl oid_0 rfl rfl rfl rfl rfl rfl ⟨rfl, rfl, rfl, rfl, rfl⟩ d37_6 (c_k_clampInt v1 (0 : Int32) (64 : Int32) s) ?_
  refine go_putI (pc := 9) fs_98 hm_37 (wr_7 _) hn_37 d37_9 (go_aloadN (pc := 12) d37_12 rfl (go_iconst (pc := 13) d37_13 ci_0 (go_putI (pc := 14) fs_101 hm_37 (wr_8 _) hn_37 d37_14 (go_aloadN (pc := 17) d37_17 rfl (go_iconst (pc := 18) d37_18 ci_0 (go_putI (pc := 19) fs_104 hm_37 (wr_9 _) hn_37 d37_19 (go_aloadN (pc := 22) d37_22 rfl ?_)))))))
  refine go_aloadN (pc := 23) d37_23 rfl (go_getI (pc := 24) fs_40 hm_37 d37_24 (go_iconst (pc := 27) d37_27 ci_1 (go_isub (pc := 28) d37_28 (go_putI (pc := 29) fs_107 hm_37 (wr_10 _) hn_37 d37_29 (go_iconst (pc := 32) d37_32 ci_0 (go_istoreN (pc := 33) (L' := [.val (.ref 1), .val (.int v1), .val (.int (0 : Int32))]) d37_33 rfl ?_))))))
  exact k_compact_34_ok BIG (0 : Int32) (sI (sI (sI (sI s 7 (k_clampInt v1 (0 : Int32) (64 : Int32))) 8 (0 : Int32)) 9 (0 : Int32)) 10 ((gI s 0) - (1 : Int32))) (.val (.int v1)) (Or.inr ⟨_, rfl, rfl⟩) _ hf
theorem c_k_compact (v1 : Int32) (s : S) (o : Int32 × S) (hf : k_compact v1 s = some o) : Call PP m37 [.ref 1, .int v1] (none, [(8, s)]) (some (.int o.1), (none, [(8, o.2)])) := call_of_go pl_0 rfl (fun h => nomatch h) (k_compact_ok v1 s   _ hf)
set_option maxRecDepth 65536 in
set_option maxHeartbeats 4000000 in
theorem k_bitCount_34_ok  {s : S} : ∀ (v3 : Int64)  (x1 : Slot) (x2 : Slot) (hx1 : k2 x1 x2) (o : Int32), k_bitCount_34 v3 = o → Go PP m39 34 [.val (.ref 1), x1, x2, .val (.long v3), .second] [] (none, [(8, s)]) (some (.int o), (none, [(8, s)])) := by
  intro v3 x1 x2 hx1 o hf
  unfold k_bitCount_34 at hf
  refine go_lloadN (pc := 34) d39_34 rfl (go_ldc2 (pc := 35) (u := (72340172838076673 : Int64)) d39_35 (List.mem_of_getElem? (i := 177) rfl) (go_lmul (pc := 38) d39_38 (go_bipush (pc := 39) d39_39 cb_56 (go_lushr (pc := 41) d39_41 (go_l2i (pc := 42) d39_42 ?_)))))
  cases hf
  exact go_iret (pc := 43) rfl d39_43
set_option maxRecDepth 65536 in
set_option maxHeartbeats 4000000 in
theorem k_bitCount_ok  {s : S} : ∀ (v1 : Int64)   (o : Int32), k_bitCount v1 = o → Go PP m39 0 [.val (.ref 1), .val (.long v1), .second, .unset, .unset] [] (none, [(8, s)]) (some (.int o), (none, [(8, s)])) := by
  intro v1 o hf
  unfold k_bitCount at hf
  refine go_lloadN (pc := 0) d39_0 rfl (go_lloadN (pc := 1) d39_1 rfl (go_iconst (pc := 2) d39_2 ci_1 (go_lushr (pc := 3) d39_3 (go_ldc2 (pc := 4) (u := (6148914691236517205 : Int64)) d39_4 (List.mem_of_getElem? (i := 174) rfl) (go_land (pc := 7) d39_7 (go_lsub (pc := 8) d39_8 (go_lstoreN (pc := 9) (L' := [.val (.ref 1), .val (.long v1), .second, .val (.long (v1 - ((XT.ushrL v1 (1 : Int32)) &&& (6148914691236517205 : Int64)))), .second]) d39_9 rfl ?_)))))))
  refine go_lloadN (pc := 10) d39_10 rfl (go_ldc2 (pc := 11) (u := (3689348814741910323 : Int64)) d39_11 (List.mem_of_getElem? (i := 175) rfl) (go_land (pc := 14) d39_14 (go_lloadN (pc := 15) d39_15 rfl (go_iconst (pc := 16) d39_16 ci_2 (go_lushr (pc := 17) d39_17 (go_ldc2 (pc := 18) (u := (3689348814741910323 : Int64)) d39_18 (List.mem_of_getElem? (i := 175) rfl) (go_land (pc := 21) d39_21 ?_)))))))
  refine go_ladd (pc := 22) d39_22 (go_lstoreN (pc := 23) (L' := [.val (.ref 1), .val (.long v1), .second, .val (.long (((v1 - ((XT.ushrL v1 (1 : Int32)) &&& (6148914691236517205 : Int64))) &&& (3689348814741910323 : Int64)) + ((XT.ushrL (v1 - ((XT.ushrL v1 (1 : Int32)) &&& (6148914691236517205 : Int64))) (2 : Int32)) &&& (3689348814741910323 : Int64)))), .second]) d39_23 rfl (go_lloadN (pc := 24) d39_24 rfl (go_lloadN (pc := 25) d39_25 rfl (go_iconst (pc := 26) d39_26 ci_4 (go_lushr (pc := 27) d39_27 (go_ladd (pc := 28) d39_28 (go_ldc2 (pc := 29) (u := (1085102592571150095 : Int64)) d39_29 (List.mem_of_getElem? (i := 176) rfl) ?_)))))))
  refine go_land (pc := 32) d39_32 (go_lstoreN (pc := 33) (L' := [.val (.ref 1), .val (.long v1), .second, .val (.long (((((v1 - ((XT.ushrL v1 (1 : Int32)) &&& (6148914691236517205 : Int64))) &&& (3689348814741910323 : Int64)) + ((XT.ushrL (v1 - ((XT.ushrL v1 (1 : Int32)) &&& (6148914691236517205 : Int64))) (2 : Int32)) &&& (3689348814741910323 : Int64))) + (XT.ushrL (((v1 - ((XT.ushrL v1 (1 : Int32)) &&& (6148914691236517205 : Int64))) &&& (3689348814741910323 : Int64)) + ((XT.ushrL (v1 - ((XT.ushrL v1 (1 : Int32)) &&& (6148914691236517205 : Int64))) (2 : Int32)) &&& (3689348814741910323 : Int64))) (4 : Int32))) &&& (1085102592571150095 : Int64))), .second]) d39_33 rfl ?_)
  exact k_bitCount_34_ok (((((v1 - ((XT.ushrL v1 (1 : Int32)) &&& (6148914691236517205 : Int64))) &&& (3689348814741910323 : Int64)) + ((XT.ushrL (v1 - ((XT.ushrL v1 (1 : Int32)) &&& (6148914691236517205 : Int64))) (2 : Int32)) &&& (3689348814741910323 : Int64))) + (XT.ushrL (((v1 - ((XT.ushrL v1 (1 : Int32)) &&& (6148914691236517205 : Int64))) &&& (3689348814741910323 : Int64)) + ((XT.ushrL (v1 - ((XT.ushrL v1 (1 : Int32)) &&& (6148914691236517205 : Int64))) (2 : Int32)) &&& (3689348814741910323 : Int64))) (4 : Int32))) &&& (1085102592571150095 : Int64)) (.val (.long v1)) .second (Or.inr ⟨_, rfl, rfl⟩) _ hf
theorem c_k_bitCount (v1 : Int64) (s : S) : Call PP m39 [.ref 1, .long v1] (none, [(8, s)]) (some (.int (k_bitCount v1)), (none, [(8, s)])) := call_of_go pl_0 rfl (fun h => nomatch h) (k_bitCount_ok v1   _ rfl)
set_option maxRecDepth 65536 in
set_option maxHeartbeats 4000000 in
theorem k_freeCount_ok  : ∀  (s : S)  (o : Int32), k_freeCount s = o → Go PP m40 0 [.val (.ref 1)] [] (none, [(8, s)]) (some (.int o), (none, [(8, s)])) := by
  intro s o hf
  unfold k_freeCount at hf
  refine go_aloadN (pc := 0) d40_0 rfl (go_aloadN (pc := 1) d40_1 rfl (go_getJ (pc := 2) fs_54 hm_40 d40_2 ?_))
  refine go_priv (pc := 5) (i := 0) (as := [.long (gL s 2)]) (rest := []) (w' := (none, [(8, s)])) lk_0_123 pd_39 rfl oid_0 rfl rfl rfl rfl rfl rfl ⟨rfl, rfl, rfl, rfl, rfl⟩ d40_5 (c_k_bitCount (gL s 2) s) ?_
  cases hf
  exact go_iret (pc := 8) rfl d40_8
theorem c_k_freeCount (s : S) : Call PP m40 [.ref 1] (none, [(8, s)]) (some (.int (k_freeCount s)), (none, [(8, s)])) := call_of_go pl_0 rfl (fun h => nomatch h) (k_freeCount_ok s   _ rfl)
set_option maxRecDepth 65536 in
set_option maxHeartbeats 4000000 in
theorem k_frameOf_ok  : ∀ (v1 : Int32) (v2 : Int32) (s : S)  (o : Int32), k_frameOf v1 v2 s = some o → Go PP m41 0 [.val (.ref 1), .val (.int v1), .val (.int v2), .unset] [] (none, [(8, s)]) (some (.int o), (none, [(8, s)])) := by
  intro v1 v2 s o hf
  unfold k_frameOf at hf
  refine go_aloadN (pc := 0) d41_0 rfl (go_iloadN (pc := 1) d41_1 rfl (go_iloadN (pc := 2) d41_2 rfl ?_))
  obtain ⟨r3, e1, hf⟩ := Option.bind_eq_some_iff.mp hf
  refine go_priv (pc := 3) (i := 0) (as := [.int v1, .int v2]) (rest := []) (w' := (none, [(8, s)])) lk_0_88 pd_19 rfl oid_0 rfl rfl rfl rfl rfl rfl ⟨rfl, rfl, rfl, rfl, rfl⟩ d41_3 (c_k_mappedFrame v1 v2 s _ e1) ?_
  refine go_istoreN (pc := 6) (L' := [.val (.ref 1), .val (.int v1), .val (.int v2), .val (.int r3)]) d41_6 rfl (go_iloadN (pc := 7) d41_7 rfl ?_)
  by_cases h2 : r3 < 0
  · replace hf := (if_pos h2).symm.trans hf
    refine go_ifN (pc := 8) d41_8 (XT.i0_ge_f h2) ?_
    refine go_iconst (pc := 11) d41_11 ci_m1 ?_
    cases hf
    exact go_iret (pc := 12) rfl d41_12
  · replace hf := (if_neg h2).symm.trans hf
    refine go_ifY (pc := 8) (pc' := 13) d41_8 (XT.i0_ge_t h2) j_8_5 ?_
    refine go_iloadN (pc := 13) d41_13 rfl ?_
    cases hf
    exact go_iret (pc := 14) rfl d41_14
theorem c_k_frameOf (v1 : Int32) (v2 : Int32) (s : S) (o : Int32) (hf : k_frameOf v1 v2 s = some o) : Call PP m41 [.ref 1, .int v1, .int v2] (none, [(8, s)]) (some (.int o), (none, [(8, s)])) := call_of_go pl_0 rfl (fun h => nomatch h) (k_frameOf_ok v1 v2 s   _ hf)
set_option maxRecDepth 65536 in
set_option maxHeartbeats 4000000 in
theorem k_read_ok  : ∀ (v1 : Int32) (v2 : Int32) (s : S)  (o : Int32), k_read v1 v2 s = some o → Go PP m42 0 [.val (.ref 1), .val (.int v1), .val (.int v2), .unset] [] (none, [(8, s)]) (some (.int o), (none, [(8, s)])) := by
  intro v1 v2 s o hf
  unfold k_read at hf
  refine go_aloadN (pc := 0) d42_0 rfl (go_iloadN (pc := 1) d42_1 rfl (go_iloadN (pc := 2) d42_2 rfl ?_))
  obtain ⟨r3, e1, hf⟩ := Option.bind_eq_some_iff.mp hf
  refine go_priv (pc := 3) (i := 0) (as := [.int v1, .int v2]) (rest := []) (w' := (none, [(8, s)])) lk_0_88 pd_19 rfl oid_0 rfl rfl rfl rfl rfl rfl ⟨rfl, rfl, rfl, rfl, rfl⟩ d42_3 (c_k_mappedFrame v1 v2 s _ e1) ?_
  refine go_istoreN (pc := 6) (L' := [.val (.ref 1), .val (.int v1), .val (.int v2), .val (.int r3)]) d42_6 rfl (go_iloadN (pc := 7) d42_7 rfl ?_)
  by_cases h2 : r3 < 0
  · replace hf := (if_pos h2).symm.trans hf
    refine go_ifN (pc := 8) d42_8 (XT.i0_ge_f h2) ?_
    refine go_iconst (pc := 11) d42_11 ci_0 ?_
    cases hf
    exact go_iret (pc := 12) rfl d42_12
  · replace hf := (if_neg h2).symm.trans hf
    refine go_ifY (pc := 8) (pc' := 13) d42_8 (XT.i0_ge_t h2) j_8_5 ?_
    refine go_aloadN (pc := 13) d42_13 rfl (go_getA (pc := 14) fa_13 hm_42 d42_14 rfl (go_iloadN (pc := 17) d42_17 rfl ?_))
    obtain ⟨a18, e3, hf⟩ := Option.bind_eq_some_iff.mp hf
    refine go_iaload (pc := 18) (q := 1) ar_1 rfl e3 d42_18 ?_
    cases hf
    exact go_iret (pc := 19) rfl d42_19
theorem c_k_read (v1 : Int32) (v2 : Int32) (s : S) (o : Int32) (hf : k_read v1 v2 s = some o) : Call PP m42 [.ref 1, .int v1, .int v2] (none, [(8, s)]) (some (.int o), (none, [(8, s)])) := call_of_go pl_0 rfl (fun h => nomatch h) (k_read_ok v1 v2 s   _ hf)
set_option maxRecDepth 65536 in
set_option maxHeartbeats 4000000 in
theorem k_mapCount_ok  : ∀ (v1 : Int32) (s : S)  (o : Int32), k_mapCount v1 s = some o → Go PP m43 0 [.val (.ref 1), .val (.int v1)] [] (none, [(8, s)]) (some (.int o), (none, [(8, s)])) := by
  intro v1 s o hf
  unfold k_mapCount at hf
  refine go_aloadN (pc := 0) d43_0 rfl (go_iloadN (pc := 1) d43_1 rfl ?_)
  refine go_priv (pc := 2) (i := 0) (as := [.int v1]) (rest := []) (w' := (none, [(8, s)])) lk_0_62 pd_8 rfl oid_0 rfl rfl rfl rfl rfl rfl ⟨rfl, rfl, rfl, rfl, rfl⟩ d43_2 (c_k_frameInRange v1 s) ?_
  by_cases h1 : (k_frameInRange v1 s) = 0
  · replace hf := (if_pos h1).symm.trans hf
    refine go_ifN (pc := 5) d43_5 (XT.i0_ne_f h1) ?_
    refine go_iconst (pc := 8) d43_8 ci_0 ?_
    cases hf
    exact go_iret (pc := 9) rfl d43_9
  · replace hf := (if_neg h1).symm.trans hf
    refine go_ifY (pc := 5) (pc' := 10) d43_5 (XT.i0_ne_t h1) j_5_5 ?_
    refine go_aloadN (pc := 10) d43_10 rfl (go_getA (pc := 11) fa_17 hm_43 d43_11 rfl (go_iloadN (pc := 14) d43_14 rfl ?_))
    obtain ⟨a15, e2, hf⟩ := Option.bind_eq_some_iff.mp hf
    refine go_iaload (pc := 15) (q := 2) ar_2 rfl e2 d43_15 ?_
    cases hf
    exact go_iret (pc := 16) rfl d43_16
theorem c_k_mapCount (v1 : Int32) (s : S) (o : Int32) (hf : k_mapCount v1 s = some o) : Call PP m43 [.ref 1, .int v1] (none, [(8, s)]) (some (.int o), (none, [(8, s)])) := call_of_go pl_0 rfl (fun h => nomatch h) (k_mapCount_ok v1 s   _ hf)
set_option maxRecDepth 65536 in
set_option maxHeartbeats 4000000 in
theorem k_frameState_ok  : ∀ (v1 : Int32) (s : S)  (o : Int32), k_frameState v1 s = some o → Go PP m44 0 [.val (.ref 1), .val (.int v1)] [] (none, [(8, s)]) (some (.int o), (none, [(8, s)])) := by
  intro v1 s o hf
  unfold k_frameState at hf
  refine go_aloadN (pc := 0) d44_0 rfl (go_iloadN (pc := 1) d44_1 rfl ?_)
  refine go_priv (pc := 2) (i := 0) (as := [.int v1]) (rest := []) (w' := (none, [(8, s)])) lk_0_62 pd_8 rfl oid_0 rfl rfl rfl rfl rfl rfl ⟨rfl, rfl, rfl, rfl, rfl⟩ d44_2 (c_k_frameInRange v1 s) ?_
  by_cases h1 : (k_frameInRange v1 s) = 0
  · replace hf := (if_pos h1).symm.trans hf
    refine go_ifN (pc := 5) d44_5 (XT.i0_ne_f h1) ?_
    refine go_iconst (pc := 8) d44_8 ci_m1 ?_
    cases hf
    exact go_iret (pc := 9) rfl d44_9
  · replace hf := (if_neg h1).symm.trans hf
    refine go_ifY (pc := 5) (pc' := 10) d44_5 (XT.i0_ne_t h1) j_5_5 ?_
    refine go_aloadN (pc := 10) d44_10 rfl (go_getA (pc := 11) fa_7 hm_44 d44_11 rfl (go_iloadN (pc := 14) d44_14 rfl ?_))
    obtain ⟨a15, e2, hf⟩ := Option.bind_eq_some_iff.mp hf
    refine go_baload (pc := 15) (q := 0) ar_0 (by decide) rfl e2 d44_15 ?_
    cases hf
    exact go_iret (pc := 16) rfl d44_16
theorem c_k_frameState (v1 : Int32) (s : S) (o : Int32) (hf : k_frameState v1 s = some o) : Call PP m44 [.ref 1, .int v1] (none, [(8, s)]) (some (.int o), (none, [(8, s)])) := call_of_go pl_0 rfl (fun h => nomatch h) (k_frameState_ok v1 s   _ hf)
set_option maxRecDepth 65536 in
set_option maxHeartbeats 4000000 in
theorem k_frameValue_ok  : ∀ (v1 : Int32) (s : S)  (o : Int32), k_frameValue v1 s = some o → Go PP m45 0 [.val (.ref 1), .val (.int v1), .unset] [] (none, [(8, s)]) (some (.int o), (none, [(8, s)])) := by
  intro v1 s o hf
  unfold k_frameValue at hf
  refine go_aloadN (pc := 0) d45_0 rfl (go_iloadN (pc := 1) d45_1 rfl ?_)
  refine go_priv (pc := 2) (i := 0) (as := [.int v1]) (rest := []) (w' := (none, [(8, s)])) lk_0_62 pd_8 rfl oid_0 rfl rfl rfl rfl rfl rfl ⟨rfl, rfl, rfl, rfl, rfl⟩ d45_2 (c_k_frameInRange v1 s) ?_
  by_cases h1 : (k_frameInRange v1 s) = 0
  · replace hf := (if_pos h1).symm.trans hf
    refine go_ifN (pc := 5) d45_5 (XT.i0_ne_f h1) ?_
    refine go_iconst (pc := 8) d45_8 ci_0 ?_
    cases hf
    exact go_iret (pc := 9) rfl d45_9
  · replace hf := (if_neg h1).symm.trans hf
    refine go_ifY (pc := 5) (pc' := 10) d45_5 (XT.i0_ne_t h1) j_5_5 ?_
    refine go_aloadN (pc := 10) d45_10 rfl (go_getA (pc := 11) fa_7 hm_45 d45_11 rfl (go_iloadN (pc := 14) d45_14 rfl ?_))
    obtain ⟨a15, e2, hf⟩ := Option.bind_eq_some_iff.mp hf
    refine go_baload (pc := 15) (q := 0) ar_0 (by decide) rfl e2 d45_15 ?_
    refine go_istoreN (pc := 16) (L' := [.val (.ref 1), .val (.int v1), .val (.int a15)]) d45_16 rfl (go_iloadN (pc := 17) d45_17 rfl ?_)
    by_cases h3 : a15 = 0
    · replace hf := (if_pos h3).symm.trans hf
      refine go_ifY (pc := 18) (pc' := 26) d45_18 (XT.i0_eq_t h3) j_18_8 ?_
      refine go_iconst (pc := 26) d45_26 ci_0 ?_
      cases hf
      exact go_iret (pc := 27) rfl d45_27
    · replace hf := (if_neg h3).symm.trans hf
      refine go_ifN (pc := 18) d45_18 (XT.i0_eq_f h3) ?_
      refine go_iloadN (pc := 21) d45_21 rfl (go_iconst (pc := 22) d45_22 ci_3 ?_)
      by_cases h4 : a15 = (3 : Int32)
      · replace hf := (if_pos h4).symm.trans hf
        refine go_icN (pc := 23) d45_23 (XT.ii_ne_f h4) ?_
        refine go_iconst (pc := 26) d45_26 ci_0 ?_
        cases hf
        exact go_iret (pc := 27) rfl d45_27
      · replace hf := (if_neg h4).symm.trans hf
        refine go_icY (pc := 23) (pc' := 28) d45_23 (XT.ii_ne_t h4) j_23_5 ?_
        refine go_aloadN (pc := 28) d45_28 rfl (go_getA (pc := 29) fa_13 hm_45 d45_29 rfl (go_iloadN (pc := 32) d45_32 rfl ?_))
        obtain ⟨a33, e5, hf⟩ := Option.bind_eq_some_iff.mp hf
        refine go_iaload (pc := 33) (q := 1) ar_1 rfl e5 d45_33 ?_
        cases hf
        exact go_iret (pc := 34) rfl d45_34
theorem c_k_frameValue (v1 : Int32) (s : S) (o : Int32) (hf : k_frameValue v1 s = some o) : Call PP m45 [.ref 1, .int v1] (none, [(8, s)]) (some (.int o), (none, [(8, s)])) := call_of_go pl_0 rfl (fun h => nomatch h) (k_frameValue_ok v1 s   _ hf)
set_option maxRecDepth 65536 in
set_option maxHeartbeats 4000000 in
theorem h_step_ok_0_n2  {y1 : S} {q : List Int32} : ∀ (v1 : Int32) (v2 : Int32) (v3 : Int32) (v4 : Int32) (t0 : S)  (o : S), h_step v1 v2 v3 v4 t0 = some o → Go PP m38 0 [.val (.ref 1), .val (.int v1), .val (.int v2), .val (.int v3), .val (.int v4), .unset, .unset, .unset] [] (some q, [(8, t0), (8, y1)]) (none, (some q, [(8, o), (8, y1)])) := by
  intro v1 v2 v3 v4 t0 o hf
  unfold h_step at hf
  refine go_iloadN (pc := 0) d38_0 rfl (go_bipush (pc := 1) d38_1 cb_7 (go_iand (pc := 3) d38_3 (go_iconst (pc := 4) d38_4 ci_5 (go_irem (pc := 5) d38_5 (by decide) (go_istore (pc := 6) (L' := [.val (.ref 1), .val (.int v1), .val (.int v2), .val (.int v3), .val (.int v4), .val (.int ((v2 &&& (7 : Int32)) % (5 : Int32))), .unset, .unset]) d38_6 rfl (go_iloadN (pc := 8) d38_8 rfl (go_bipush (pc := 9) d38_9 cb_7 ?_)))))))
  refine go_iand (pc := 11) d38_11 (go_iconst (pc := 12) d38_12 ci_5 (go_irem (pc := 13) d38_13 (by decide) (go_istore (pc := 14) (L' := [.val (.ref 1), .val (.int v1), .val (.int v2), .val (.int v3), .val (.int v4), .val (.int ((v2 &&& (7 : Int32)) % (5 : Int32))), .val (.int ((v3 &&& (7 : Int32)) % (5 : Int32))), .unset]) d38_14 rfl (go_iloadN (pc := 16) d38_16 rfl (go_bipush (pc := 17) d38_17 cb_15 (go_iand (pc := 19) d38_19 (go_bipush (pc := 20) d38_20 cb_9 ?_)))))))
  refine go_irem (pc := 22) d38_22 (by decide) (go_istore (pc := 23) (L' := [.val (.ref 1), .val (.int v1), .val (.int v2), .val (.int v3), .val (.int v4), .val (.int ((v2 &&& (7 : Int32)) % (5 : Int32))), .val (.int ((v3 &&& (7 : Int32)) % (5 : Int32))), .val (.int ((v2 &&& (15 : Int32)) % (9 : Int32)))]) d38_23 rfl (go_iloadN (pc := 25) d38_25 rfl ?_))
  by_cases h1 : v1 = 0
  · replace hf := (if_pos h1).symm.trans hf
    refine go_ifN (pc := 26) d38_26 (XT.i0_ne_f h1) ?_
    refine go_aloadN (pc := 29) d38_29 rfl (go_iload (pc := 30) d38_30 rfl (go_iload (pc := 32) d38_32 rfl (go_iload (pc := 34) d38_34 rfl ?_)))
    obtain ⟨r36, e17, hf⟩ := Option.bind_eq_some_iff.mp hf
    refine go_virt (pc := 36) (i := 0) (as := [.int ((v2 &&& (7 : Int32)) % (5 : Int32)), .int ((v3 &&& (7 : Int32)) % (5 : Int32)), .int v4]) (rest := []) (w' := (some q, [(8, r36.2), (8, y1)])) lk_1_7 pd_13 rfl oid_0 rfl rfl rfl rfl rfl rfl ⟨rfl, rfl, rfl, rfl, rfl⟩ d38_36 (c_k_mapNew ((v2 &&& (7 : Int32)) % (5 : Int32)) ((v3 &&& (7 : Int32)) % (5 : Int32)) v4 t0 _ e17) ?_
    refine go_pop (pc := 39) d38_39 (go_goto (pc := 40) (pc' := 180) d38_40 j_40_140 ?_)
    cases hf
    exact go_ret (pc := 180) rfl d38_180
  · replace hf := (if_neg h1).symm.trans hf
    refine go_ifY (pc := 26) (pc' := 43) d38_26 (XT.i0_ne_t h1) j_26_17 ?_
    refine go_iloadN (pc := 43) d38_43 rfl (go_iconst (pc := 44) d38_44 ci_1 ?_)
    by_cases h2 : v1 = (1 : Int32)
    · replace hf := (if_pos h2).symm.trans hf
      refine go_icN (pc := 45) d38_45 (XT.ii_ne_f h2) ?_
      refine go_aloadN (pc := 48) d38_48 rfl (go_iload (pc := 49) d38_49 rfl (go_iload (pc := 51) d38_51 rfl (go_iload (pc := 53) d38_53 rfl (go_iconst (pc := 55) d38_55 ci_3 (go_iand (pc := 56) d38_56 (go_iload (pc := 57) d38_57 rfl (go_iconst (pc := 59) d38_59 ci_2 ?_)))))))
      refine go_ishr (pc := 60) d38_60 (go_iconst (pc := 61) d38_61 ci_3 (go_iand (pc := 62) d38_62 ?_))
      obtain ⟨r63, e16, hf⟩ := Option.bind_eq_some_iff.mp hf
      refine go_virt (pc := 63) (i := 0) (as := [.int ((v2 &&& (7 : Int32)) % (5 : Int32)), .int ((v3 &&& (7 : Int32)) % (5 : Int32)), .int (v4 &&& (3 : Int32)), .int ((v4 >>> ((2 : Int32) &&& 31)) &&& (3 : Int32))]) (rest := []) (w' := (some q, [(8, r63.2), (8, y1)])) lk_1_13 pd_14 rfl oid_0 rfl rfl rfl rfl rfl rfl ⟨rfl, rfl, rfl, rfl, rfl⟩ d38_63 (c_k_share ((v2 &&& (7 : Int32)) % (5 : Int32)) ((v3 &&& (7 : Int32)) % (5 : Int32)) (v4 &&& (3 : Int32)) ((v4 >>> ((2 : Int32) &&& 31)) &&& (3 : Int32)) t0 _ e16) ?_
      refine go_pop (pc := 66) d38_66 (go_goto (pc := 67) (pc' := 180) d38_67 j_67_113 ?_)
      cases hf
      exact go_ret (pc := 180) rfl d38_180
    · replace hf := (if_neg h2).symm.trans hf
      refine go_icY (pc := 45) (pc' := 70) d38_45 (XT.ii_ne_t h2) j_45_25 ?_
      refine go_iloadN (pc := 70) d38_70 rfl (go_iconst (pc := 71) d38_71 ci_2 ?_)
      by_cases h3 : v1 = (2 : Int32)
      · replace hf := (if_pos h3).symm.trans hf
        refine go_icN (pc := 72) d38_72 (XT.ii_ne_f h3) ?_
        refine go_aloadN (pc := 75) d38_75 rfl (go_iload (pc := 76) d38_76 rfl (go_iload (pc := 78) d38_78 rfl ?_))
        obtain ⟨r80, e15, hf⟩ := Option.bind_eq_some_iff.mp hf
        refine go_virt (pc := 80) (i := 0) (as := [.int ((v2 &&& (7 : Int32)) % (5 : Int32)), .int ((v3 &&& (7 : Int32)) % (5 : Int32))]) (rest := []) (w' := (some q, [(8, r80.2), (8, y1)])) lk_1_17 pd_18 rfl oid_0 rfl rfl rfl rfl rfl rfl ⟨rfl, rfl, rfl, rfl, rfl⟩ d38_80 (c_k_unmap ((v2 &&& (7 : Int32)) % (5 : Int32)) ((v3 &&& (7 : Int32)) % (5 : Int32)) t0 _ e15) ?_
        refine go_pop (pc := 83) d38_83 (go_goto (pc := 84) (pc' := 180) d38_84 j_84_96 ?_)
        cases hf
        exact go_ret (pc := 180) rfl d38_180
      · replace hf := (if_neg h3).symm.trans hf
        refine go_icY (pc := 72) (pc' := 87) d38_72 (XT.ii_ne_t h3) j_72_15 ?_
        refine go_iloadN (pc := 87) d38_87 rfl (go_iconst (pc := 88) d38_88 ci_3 ?_)
        by_cases h4 : v1 = (3 : Int32)
        · replace hf := (if_pos h4).symm.trans hf
          refine go_icN (pc := 89) d38_89 (XT.ii_ne_f h4) ?_
          refine go_aloadN (pc := 92) d38_92 rfl (go_iload (pc := 93) d38_93 rfl (go_iload (pc := 95) d38_95 rfl (go_iload (pc := 97) d38_97 rfl ?_)))
          obtain ⟨r99, e14, hf⟩ := Option.bind_eq_some_iff.mp hf
          refine go_virt (pc := 99) (i := 0) (as := [.int ((v2 &&& (7 : Int32)) % (5 : Int32)), .int ((v3 &&& (7 : Int32)) % (5 : Int32)), .int v4]) (rest := []) (w' := (some q, [(8, r99.2), (8, y1)])) lk_1_21 pd_20 rfl oid_0 rfl rfl rfl rfl rfl rfl ⟨rfl, rfl, rfl, rfl, rfl⟩ d38_99 (c_k_write ((v2 &&& (7 : Int32)) % (5 : Int32)) ((v3 &&& (7 : Int32)) % (5 : Int32)) v4 t0 _ e14) ?_
          refine go_pop (pc := 102) d38_102 (go_goto (pc := 103) (pc' := 180) d38_103 j_103_77 ?_)
          cases hf
          exact go_ret (pc := 180) rfl d38_180
        · replace hf := (if_neg h4).symm.trans hf
          refine go_icY (pc := 89) (pc' := 106) d38_89 (XT.ii_ne_t h4) j_89_17 ?_
          refine go_iloadN (pc := 106) d38_106 rfl (go_iconst (pc := 107) d38_107 ci_4 ?_)
          by_cases h5 : v1 = (4 : Int32)
          · replace hf := (if_pos h5).symm.trans hf
            refine go_icN (pc := 108) d38_108 (XT.ii_ne_f h5) ?_
            refine go_aloadN (pc := 111) d38_111 rfl (go_iload (pc := 112) d38_112 rfl ?_)
            obtain ⟨r114, e13, hf⟩ := Option.bind_eq_some_iff.mp hf
            refine go_virt (pc := 114) (i := 0) (as := [.int ((v2 &&& (15 : Int32)) % (9 : Int32))]) (rest := []) (w' := (some q, [(8, r114.2), (8, y1)])) lk_1_25 pd_21 rfl oid_0 rfl rfl rfl rfl rfl rfl ⟨rfl, rfl, rfl, rfl, rfl⟩ d38_114 (c_k_pin ((v2 &&& (15 : Int32)) % (9 : Int32)) t0 _ e13) ?_
            refine go_pop (pc := 117) d38_117 (go_goto (pc := 118) (pc' := 180) d38_118 j_118_62 ?_)
            cases hf
            exact go_ret (pc := 180) rfl d38_180
          · replace hf := (if_neg h5).symm.trans hf
            refine go_icY (pc := 108) (pc' := 121) d38_108 (XT.ii_ne_t h5) j_108_13 ?_
            refine go_iloadN (pc := 121) d38_121 rfl (go_iconst (pc := 122) d38_122 ci_5 ?_)
            by_cases h6 : v1 = (5 : Int32)
            · replace hf := (if_pos h6).symm.trans hf
              refine go_icN (pc := 123) d38_123 (XT.ii_ne_f h6) ?_
              refine go_aloadN (pc := 126) d38_126 rfl (go_iload (pc := 127) d38_127 rfl ?_)
              obtain ⟨r129, e12, hf⟩ := Option.bind_eq_some_iff.mp hf
              refine go_virt (pc := 129) (i := 0) (as := [.int ((v2 &&& (15 : Int32)) % (9 : Int32))]) (rest := []) (w' := (some q, [(8, r129.2), (8, y1)])) lk_1_29 pd_22 rfl oid_0 rfl rfl rfl rfl rfl rfl ⟨rfl, rfl, rfl, rfl, rfl⟩ d38_129 (c_k_unpin ((v2 &&& (15 : Int32)) % (9 : Int32)) t0 _ e12) ?_
              refine go_pop (pc := 132) d38_132 (go_goto (pc := 133) (pc' := 180) d38_133 j_133_47 ?_)
              cases hf
              exact go_ret (pc := 180) rfl d38_180
            · replace hf := (if_neg h6).symm.trans hf
              refine go_icY (pc := 123) (pc' := 136) d38_123 (XT.ii_ne_t h6) j_123_13 ?_
              refine go_iloadN (pc := 136) d38_136 rfl (go_bipush (pc := 137) d38_137 cb_6 ?_)
              by_cases h7 : v1 = (6 : Int32)
              · replace hf := (if_pos h7).symm.trans hf
                refine go_icN (pc := 139) d38_139 (XT.ii_ne_f h7) ?_
                refine go_aloadN (pc := 142) d38_142 rfl (go_iloadN (pc := 143) d38_143 rfl (go_iconst (pc := 144) d38_144 ci_3 (go_iand (pc := 145) d38_145 ?_)))
                obtain ⟨r146, e11, hf⟩ := Option.bind_eq_some_iff.mp hf
                refine go_virt (pc := 146) (i := 0) (as := [.int (v2 &&& (3 : Int32))]) (rest := []) (w' := (some q, [(8, r146.2), (8, y1)])) lk_1_32 pd_28 rfl oid_0 rfl rfl rfl rfl rfl rfl ⟨rfl, rfl, rfl, rfl, rfl⟩ d38_146 (c_k_allocBlock (v2 &&& (3 : Int32)) t0 _ e11) ?_
                refine go_pop (pc := 149) d38_149 (go_goto (pc := 150) (pc' := 180) d38_150 j_150_30 ?_)
                cases hf
                exact go_ret (pc := 180) rfl d38_180
              · replace hf := (if_neg h7).symm.trans hf
                refine go_icY (pc := 139) (pc' := 153) d38_139 (XT.ii_ne_t h7) j_139_14 ?_
                refine go_iloadN (pc := 153) d38_153 rfl (go_bipush (pc := 154) d38_154 cb_7 ?_)
                by_cases h8 : v1 = (7 : Int32)
                · replace hf := (if_pos h8).symm.trans hf
                  refine go_icN (pc := 156) d38_156 (XT.ii_ne_f h8) ?_
                  refine go_aloadN (pc := 159) d38_159 rfl (go_iload (pc := 160) d38_160 rfl ?_)
                  obtain ⟨r162, e10, hf⟩ := Option.bind_eq_some_iff.mp hf
                  refine go_virt (pc := 162) (i := 0) (as := [.int ((v2 &&& (15 : Int32)) % (9 : Int32))]) (rest := []) (w' := (some q, [(8, r162.2), (8, y1)])) lk_1_36 pd_29 rfl oid_0 rfl rfl rfl rfl rfl rfl ⟨rfl, rfl, rfl, rfl, rfl⟩ d38_162 (c_k_release ((v2 &&& (15 : Int32)) % (9 : Int32)) t0 _ e10) ?_
                  refine go_pop (pc := 165) d38_165 (go_goto (pc := 166) (pc' := 180) d38_166 j_166_14 ?_)
                  cases hf
                  exact go_ret (pc := 180) rfl d38_180
                · replace hf := (if_neg h8).symm.trans hf
                  refine go_icY (pc := 156) (pc' := 169) d38_156 (XT.ii_ne_t h8) j_156_13 ?_
                  refine go_aloadN (pc := 169) d38_169 rfl (go_iloadN (pc := 170) d38_170 rfl (go_bipush (pc := 171) d38_171 cb_7 (go_iand (pc := 173) d38_173 (go_iconst (pc := 174) d38_174 ci_1 (go_isub (pc := 175) d38_175 ?_)))))
                  obtain ⟨r176, e9, hf⟩ := Option.bind_eq_some_iff.mp hf
                  refine go_virt (pc := 176) (i := 0) (as := [.int ((v2 &&& (7 : Int32)) - (1 : Int32))]) (rest := []) (w' := (some q, [(8, r176.2), (8, y1)])) lk_1_39 pd_37 rfl oid_0 rfl rfl rfl rfl rfl rfl ⟨rfl, rfl, rfl, rfl, rfl⟩ d38_176 (c_k_compact ((v2 &&& (7 : Int32)) - (1 : Int32)) t0 _ e9) ?_
                  refine go_pop (pc := 179) d38_179 ?_
                  cases hf
                  exact go_ret (pc := 180) rfl d38_180
theorem c_h_step_0_n2 (v1 : Int32) (v2 : Int32) (v3 : Int32) (v4 : Int32) (t0 : S) (q : List Int32) (y1 : S) (o : S) (hf : h_step v1 v2 v3 v4 t0 = some o) : Call PP m38 [.ref 1, .int v1, .int v2, .int v3, .int v4] (some q, [(8, t0), (8, y1)]) (none, (some q, [(8, o), (8, y1)])) := call_of_go pl_1 rfl (fun _ => rfl) (h_step_ok_0_n2 v1 v2 v3 v4 t0   _ hf)
set_option maxRecDepth 65536 in
set_option maxHeartbeats 4000000 in
theorem h_step_ok_1_n2  {y0 : S} {q : List Int32} : ∀ (v1 : Int32) (v2 : Int32) (v3 : Int32) (v4 : Int32) (t0 : S)  (o : S), h_step v1 v2 v3 v4 t0 = some o → Go PP m38 0 [.val (.ref 10), .val (.int v1), .val (.int v2), .val (.int v3), .val (.int v4), .unset, .unset, .unset] [] (some q, [(8, y0), (8, t0)]) (none, (some q, [(8, y0), (8, o)])) := by
  intro v1 v2 v3 v4 t0 o hf
  unfold h_step at hf
  refine go_iloadN (pc := 0) d38_0 rfl (go_bipush (pc := 1) d38_1 cb_7 (go_iand (pc := 3) d38_3 (go_iconst (pc := 4) d38_4 ci_5 (go_irem (pc := 5) d38_5 (by decide) (go_istore (pc := 6) (L' := [.val (.ref 10), .val (.int v1), .val (.int v2), .val (.int v3), .val (.int v4), .val (.int ((v2 &&& (7 : Int32)) % (5 : Int32))), .unset, .unset]) d38_6 rfl (go_iloadN (pc := 8) d38_8 rfl (go_bipush (pc := 9) d38_9 cb_7 ?_)))))))
  refine go_iand (pc := 11) d38_11 (go_iconst (pc := 12) d38_12 ci_5 (go_irem (pc := 13) d38_13 (by decide) (go_istore (pc := 14) (L' := [.val (.ref 10), .val (.int v1), .val (.int v2), .val (.int v3), .val (.int v4), .val (.int ((v2 &&& (7 : Int32)) % (5 : Int32))), .val (.int ((v3 &&& (7 : Int32)) % (5 : Int32))), .unset]) d38_14 rfl (go_iloadN (pc := 16) d38_16 rfl (go_bipush (pc := 17) d38_17 cb_15 (go_iand (pc := 19) d38_19 (go_bipush (pc := 20) d38_20 cb_9 ?_)))))))
  refine go_irem (pc := 22) d38_22 (by decide) (go_istore (pc := 23) (L' := [.val (.ref 10), .val (.int v1), .val (.int v2), .val (.int v3), .val (.int v4), .val (.int ((v2 &&& (7 : Int32)) % (5 : Int32))), .val (.int ((v3 &&& (7 : Int32)) % (5 : Int32))), .val (.int ((v2 &&& (15 : Int32)) % (9 : Int32)))]) d38_23 rfl (go_iloadN (pc := 25) d38_25 rfl ?_))
  by_cases h1 : v1 = 0
  · replace hf := (if_pos h1).symm.trans hf
    refine go_ifN (pc := 26) d38_26 (XT.i0_ne_f h1) ?_
    refine go_aloadN (pc := 29) d38_29 rfl (go_iload (pc := 30) d38_30 rfl (go_iload (pc := 32) d38_32 rfl (go_iload (pc := 34) d38_34 rfl ?_)))
    obtain ⟨r36, e17, hf⟩ := Option.bind_eq_some_iff.mp hf
    refine go_virt (pc := 36) (i := 1) (as := [.int ((v2 &&& (7 : Int32)) % (5 : Int32)), .int ((v3 &&& (7 : Int32)) % (5 : Int32)), .int v4]) (rest := []) (w' := (some q, [(8, y0), (8, r36.2)])) lk_1_7 pd_13 rfl oid_1 rfl rfl rfl rfl rfl rfl ⟨rfl, rfl, rfl, rfl, rfl⟩ d38_36 (c_k_mapNew ((v2 &&& (7 : Int32)) % (5 : Int32)) ((v3 &&& (7 : Int32)) % (5 : Int32)) v4 t0 _ e17) ?_
    refine go_pop (pc := 39) d38_39 (go_goto (pc := 40) (pc' := 180) d38_40 j_40_140 ?_)
    cases hf
    exact go_ret (pc := 180) rfl d38_180
  · replace hf := (if_neg h1).symm.trans hf
    refine go_ifY (pc := 26) (pc' := 43) d38_26 (XT.i0_ne_t h1) j_26_17 ?_
    refine go_iloadN (pc := 43) d38_43 rfl (go_iconst (pc := 44) d38_44 ci_1 ?_)
    by_cases h2 : v1 = (1 : Int32)
    · replace hf := (if_pos h2).symm.trans hf
      refine go_icN (pc := 45) d38_45 (XT.ii_ne_f h2) ?_
      refine go_aloadN (pc := 48) d38_48 rfl (go_iload (pc := 49) d38_49 rfl (go_iload (pc := 51) d38_51 rfl (go_iload (pc := 53) d38_53 rfl (go_iconst (pc := 55) d38_55 ci_3 (go_iand (pc := 56) d38_56 (go_iload (pc := 57) d38_57 rfl (go_iconst (pc := 59) d38_59 ci_2 ?_)))))))
      refine go_ishr (pc := 60) d38_60 (go_iconst (pc := 61) d38_61 ci_3 (go_iand (pc := 62) d38_62 ?_))
      obtain ⟨r63, e16, hf⟩ := Option.bind_eq_some_iff.mp hf
      refine go_virt (pc := 63) (i := 1) (as := [.int ((v2 &&& (7 : Int32)) % (5 : Int32)), .int ((v3 &&& (7 : Int32)) % (5 : Int32)), .int (v4 &&& (3 : Int32)), .int ((v4 >>> ((2 : Int32) &&& 31)) &&& (3 : Int32))]) (rest := []) (w' := (some q, [(8, y0), (8, r63.2)])) lk_1_13 pd_14 rfl oid_1 rfl rfl rfl rfl rfl rfl ⟨rfl, rfl, rfl, rfl, rfl⟩ d38_63 (c_k_share ((v2 &&& (7 : Int32)) % (5 : Int32)) ((v3 &&& (7 : Int32)) % (5 : Int32)) (v4 &&& (3 : Int32)) ((v4 >>> ((2 : Int32) &&& 31)) &&& (3 : Int32)) t0 _ e16) ?_
      refine go_pop (pc := 66) d38_66 (go_goto (pc := 67) (pc' := 180) d38_67 j_67_113 ?_)
      cases hf
      exact go_ret (pc := 180) rfl d38_180
    · replace hf := (if_neg h2).symm.trans hf
      refine go_icY (pc := 45) (pc' := 70) d38_45 (XT.ii_ne_t h2) j_45_25 ?_
      refine go_iloadN (pc := 70) d38_70 rfl (go_iconst (pc := 71) d38_71 ci_2 ?_)
      by_cases h3 : v1 = (2 : Int32)
      · replace hf := (if_pos h3).symm.trans hf
        refine go_icN (pc := 72) d38_72 (XT.ii_ne_f h3) ?_
        refine go_aloadN (pc := 75) d38_75 rfl (go_iload (pc := 76) d38_76 rfl (go_iload (pc := 78) d38_78 rfl ?_))
        obtain ⟨r80, e15, hf⟩ := Option.bind_eq_some_iff.mp hf
        refine go_virt (pc := 80) (i := 1) (as := [.int ((v2 &&& (7 : Int32)) % (5 : Int32)), .int ((v3 &&& (7 : Int32)) % (5 : Int32))]) (rest := []) (w' := (some q, [(8, y0), (8, r80.2)])) lk_1_17 pd_18 rfl oid_1 rfl rfl rfl rfl rfl rfl ⟨rfl, rfl, rfl, rfl, rfl⟩ d38_80 (c_k_unmap ((v2 &&& (7 : Int32)) % (5 : Int32)) ((v3 &&& (7 : Int32)) % (5 : Int32)) t0 _ e15) ?_
        refine go_pop (pc := 83) d38_83 (go_goto (pc := 84) (pc' := 180) d38_84 j_84_96 ?_)
        cases hf
        exact go_ret (pc := 180) rfl d38_180
      · replace hf := (if_neg h3).symm.trans hf
        refine go_icY (pc := 72) (pc' := 87) d38_72 (XT.ii_ne_t h3) j_72_15 ?_
        refine go_iloadN (pc := 87) d38_87 rfl (go_iconst (pc := 88) d38_88 ci_3 ?_)
        by_cases h4 : v1 = (3 : Int32)
        · replace hf := (if_pos h4).symm.trans hf
          refine go_icN (pc := 89) d38_89 (XT.ii_ne_f h4) ?_
          refine go_aloadN (pc := 92) d38_92 rfl (go_iload (pc := 93) d38_93 rfl (go_iload (pc := 95) d38_95 rfl (go_iload (pc := 97) d38_97 rfl ?_)))
          obtain ⟨r99, e14, hf⟩ := Option.bind_eq_some_iff.mp hf
          refine go_virt (pc := 99) (i := 1) (as := [.int ((v2 &&& (7 : Int32)) % (5 : Int32)), .int ((v3 &&& (7 : Int32)) % (5 : Int32)), .int v4]) (rest := []) (w' := (some q, [(8, y0), (8, r99.2)])) lk_1_21 pd_20 rfl oid_1 rfl rfl rfl rfl rfl rfl ⟨rfl, rfl, rfl, rfl, rfl⟩ d38_99 (c_k_write ((v2 &&& (7 : Int32)) % (5 : Int32)) ((v3 &&& (7 : Int32)) % (5 : Int32)) v4 t0 _ e14) ?_
          refine go_pop (pc := 102) d38_102 (go_goto (pc := 103) (pc' := 180) d38_103 j_103_77 ?_)
          cases hf
          exact go_ret (pc := 180) rfl d38_180
        · replace hf := (if_neg h4).symm.trans hf
          refine go_icY (pc := 89) (pc' := 106) d38_89 (XT.ii_ne_t h4) j_89_17 ?_
          refine go_iloadN (pc := 106) d38_106 rfl (go_iconst (pc := 107) d38_107 ci_4 ?_)
          by_cases h5 : v1 = (4 : Int32)
          · replace hf := (if_pos h5).symm.trans hf
            refine go_icN (pc := 108) d38_108 (XT.ii_ne_f h5) ?_
            refine go_aloadN (pc := 111) d38_111 rfl (go_iload (pc := 112) d38_112 rfl ?_)
            obtain ⟨r114, e13, hf⟩ := Option.bind_eq_some_iff.mp hf
            refine go_virt (pc := 114) (i := 1) (as := [.int ((v2 &&& (15 : Int32)) % (9 : Int32))]) (rest := []) (w' := (some q, [(8, y0), (8, r114.2)])) lk_1_25 pd_21 rfl oid_1 rfl rfl rfl rfl rfl rfl ⟨rfl, rfl, rfl, rfl, rfl⟩ d38_114 (c_k_pin ((v2 &&& (15 : Int32)) % (9 : Int32)) t0 _ e13) ?_
            refine go_pop (pc := 117) d38_117 (go_goto (pc := 118) (pc' := 180) d38_118 j_118_62 ?_)
            cases hf
            exact go_ret (pc := 180) rfl d38_180
          · replace hf := (if_neg h5).symm.trans hf
            refine go_icY (pc := 108) (pc' := 121) d38_108 (XT.ii_ne_t h5) j_108_13 ?_
            refine go_iloadN (pc := 121) d38_121 rfl (go_iconst (pc := 122) d38_122 ci_5 ?_)
            by_cases h6 : v1 = (5 : Int32)
            · replace hf := (if_pos h6).symm.trans hf
              refine go_icN (pc := 123) d38_123 (XT.ii_ne_f h6) ?_
              refine go_aloadN (pc := 126) d38_126 rfl (go_iload (pc := 127) d38_127 rfl ?_)
              obtain ⟨r129, e12, hf⟩ := Option.bind_eq_some_iff.mp hf
              refine go_virt (pc := 129) (i := 1) (as := [.int ((v2 &&& (15 : Int32)) % (9 : Int32))]) (rest := []) (w' := (some q, [(8, y0), (8, r129.2)])) lk_1_29 pd_22 rfl oid_1 rfl rfl rfl rfl rfl rfl ⟨rfl, rfl, rfl, rfl, rfl⟩ d38_129 (c_k_unpin ((v2 &&& (15 : Int32)) % (9 : Int32)) t0 _ e12) ?_
              refine go_pop (pc := 132) d38_132 (go_goto (pc := 133) (pc' := 180) d38_133 j_133_47 ?_)
              cases hf
              exact go_ret (pc := 180) rfl d38_180
            · replace hf := (if_neg h6).symm.trans hf
              refine go_icY (pc := 123) (pc' := 136) d38_123 (XT.ii_ne_t h6) j_123_13 ?_
              refine go_iloadN (pc := 136) d38_136 rfl (go_bipush (pc := 137) d38_137 cb_6 ?_)
              by_cases h7 : v1 = (6 : Int32)
              · replace hf := (if_pos h7).symm.trans hf
                refine go_icN (pc := 139) d38_139 (XT.ii_ne_f h7) ?_
                refine go_aloadN (pc := 142) d38_142 rfl (go_iloadN (pc := 143) d38_143 rfl (go_iconst (pc := 144) d38_144 ci_3 (go_iand (pc := 145) d38_145 ?_)))
                obtain ⟨r146, e11, hf⟩ := Option.bind_eq_some_iff.mp hf
                refine go_virt (pc := 146) (i := 1) (as := [.int (v2 &&& (3 : Int32))]) (rest := []) (w' := (some q, [(8, y0), (8, r146.2)])) lk_1_32 pd_28 rfl oid_1 rfl rfl rfl rfl rfl rfl ⟨rfl, rfl, rfl, rfl, rfl⟩ d38_146 (c_k_allocBlock (v2 &&& (3 : Int32)) t0 _ e11) ?_
                refine go_pop (pc := 149) d38_149 (go_goto (pc := 150) (pc' := 180) d38_150 j_150_30 ?_)
                cases hf
                exact go_ret (pc := 180) rfl d38_180
              · replace hf := (if_neg h7).symm.trans hf
                refine go_icY (pc := 139) (pc' := 153) d38_139 (XT.ii_ne_t h7) j_139_14 ?_
                refine go_iloadN (pc := 153) d38_153 rfl (go_bipush (pc := 154) d38_154 cb_7 ?_)
                by_cases h8 : v1 = (7 : Int32)
                · replace hf := (if_pos h8).symm.trans hf
                  refine go_icN (pc := 156) d38_156 (XT.ii_ne_f h8) ?_
                  refine go_aloadN (pc := 159) d38_159 rfl (go_iload (pc := 160) d38_160 rfl ?_)
                  obtain ⟨r162, e10, hf⟩ := Option.bind_eq_some_iff.mp hf
                  refine go_virt (pc := 162) (i := 1) (as := [.int ((v2 &&& (15 : Int32)) % (9 : Int32))]) (rest := []) (w' := (some q, [(8, y0), (8, r162.2)])) lk_1_36 pd_29 rfl oid_1 rfl rfl rfl rfl rfl rfl ⟨rfl, rfl, rfl, rfl, rfl⟩ d38_162 (c_k_release ((v2 &&& (15 : Int32)) % (9 : Int32)) t0 _ e10) ?_
                  refine go_pop (pc := 165) d38_165 (go_goto (pc := 166) (pc' := 180) d38_166 j_166_14 ?_)
                  cases hf
                  exact go_ret (pc := 180) rfl d38_180
                · replace hf := (if_neg h8).symm.trans hf
                  refine go_icY (pc := 156) (pc' := 169) d38_156 (XT.ii_ne_t h8) j_156_13 ?_
                  refine go_aloadN (pc := 169) d38_169 rfl (go_iloadN (pc := 170) d38_170 rfl (go_bipush (pc := 171) d38_171 cb_7 (go_iand (pc := 173) d38_173 (go_iconst (pc := 174) d38_174 ci_1 (go_isub (pc := 175) d38_175 ?_)))))
                  obtain ⟨r176, e9, hf⟩ := Option.bind_eq_some_iff.mp hf
                  refine go_virt (pc := 176) (i := 1) (as := [.int ((v2 &&& (7 : Int32)) - (1 : Int32))]) (rest := []) (w' := (some q, [(8, y0), (8, r176.2)])) lk_1_39 pd_37 rfl oid_1 rfl rfl rfl rfl rfl rfl ⟨rfl, rfl, rfl, rfl, rfl⟩ d38_176 (c_k_compact ((v2 &&& (7 : Int32)) - (1 : Int32)) t0 _ e9) ?_
                  refine go_pop (pc := 179) d38_179 ?_
                  cases hf
                  exact go_ret (pc := 180) rfl d38_180
theorem c_h_step_1_n2 (v1 : Int32) (v2 : Int32) (v3 : Int32) (v4 : Int32) (t0 : S) (q : List Int32) (y0 : S) (o : S) (hf : h_step v1 v2 v3 v4 t0 = some o) : Call PP m38 [.ref 10, .int v1, .int v2, .int v3, .int v4] (some q, [(8, y0), (8, t0)]) (none, (some q, [(8, y0), (8, o)])) := call_of_go pl_1 rfl (fun _ => rfl) (h_step_ok_1_n2 v1 v2 v3 v4 t0   _ hf)
set_option maxRecDepth 65536 in
set_option maxHeartbeats 4000000 in
theorem law_528_ok  : ∀ (n : Nat) (v5 : Int32) (q : List Int32) (t0 : S) (t1 : S) (x3 : Slot) (x4 : Slot) (x6 : Slot) (x7 : Slot) (x8 : Slot) (x9 : Slot) (x10 : Slot) (x11 : Slot) (x12 : Slot) (x13 : Slot) (x14 : Slot) (hx3 : k1 x3) (hx4 : k1 x4) (hx6 : k1 x6) (hx7 : k1 x7) (hx8 : k1 x8) (hx9 : k1 x9) (hx10 : k1 x10) (hx11 : k1 x11) (hx12 : k1 x12) (hx13 : k1 x13) (hx14 : k1 x14) (o : Int32 × S × S), law_528 n v5 q t0 t1 = some o → Go PP m46 528 [.val (.ref 0), .val (.ref 1), .val (.ref 10), x3, x4, .val (.int v5), x6, x7, x8, x9, x10, x11, x12, x13, x14] [] (some q, [(8, t0), (8, t1)]) (some (.int o.1), (some q, [(8, o.2.1), (8, o.2.2)])) := by
  intro n
  induction n with
  | zero => intro v5 q t0 t1 x3 x4 x6 x7 x8 x9 x10 x11 x12 x13 x14 hx3 hx4 hx6 hx7 hx8 hx9 hx10 hx11 hx12 hx13 hx14 o hf; exact nomatch hf
  | succ n ih =>
    intro v5 q t0 t1 x3 x4 x6 x7 x8 x9 x10 x11 x12 x13 x14 hx3 hx4 hx6 hx7 hx8 hx9 hx10 hx11 hx12 hx13 hx14 o hf
    unfold law_528 at hf
    refine go_iload (pc := 528) d46_528 rfl (go_bipush (pc := 530) d46_530 cb_16 ?_)
    by_cases h1 : v5 < (16 : Int32)
    · replace hf := (if_pos h1).symm.trans hf
      refine go_icN (pc := 532) d46_532 (XT.ii_ge_f h1) ?_
      refine go_aloadN (pc := 535) d46_535 rfl (go_iload (pc := 536) d46_536 rfl (go_iconst (pc := 538) d46_538 ci_2 (go_ishr (pc := 539) d46_539 (go_iload (pc := 540) d46_540 rfl (go_iconst (pc := 542) d46_542 ci_3 (go_iand (pc := 543) d46_543 ?_))))))
      obtain ⟨r544, e2, hf⟩ := Option.bind_eq_some_iff.mp hf
      refine go_virt (pc := 544) (i := 0) (as := [.int (v5 >>> ((2 : Int32) &&& 31)), .int (v5 &&& (3 : Int32))]) (rest := []) (w' := (some q, [(8, t0), (8, t1)])) lk_1_55 pd_41 rfl oid_0 rfl rfl rfl rfl rfl rfl ⟨rfl, rfl, rfl, rfl, rfl⟩ d46_544 (c_k_frameOf (v5 >>> ((2 : Int32) &&& 31)) (v5 &&& (3 : Int32)) t0 _ e2) ?_
      refine go_aloadN (pc := 547) d46_547 rfl (go_iload (pc := 548) d46_548 rfl (go_iconst (pc := 550) d46_550 ci_2 (go_ishr (pc := 551) d46_551 (go_iload (pc := 552) d46_552 rfl (go_iconst (pc := 554) d46_554 ci_3 (go_iand (pc := 555) d46_555 ?_))))))
      obtain ⟨r556, e3, hf⟩ := Option.bind_eq_some_iff.mp hf
      refine go_virt (pc := 556) (i := 1) (as := [.int (v5 >>> ((2 : Int32) &&& 31)), .int (v5 &&& (3 : Int32))]) (rest := [.int r544]) (w' := (some q, [(8, t0), (8, t1)])) lk_1_55 pd_41 rfl oid_1 rfl rfl rfl rfl rfl rfl ⟨rfl, rfl, rfl, rfl, rfl⟩ d46_556 (c_k_frameOf (v5 >>> ((2 : Int32) &&& 31)) (v5 &&& (3 : Int32)) t1 _ e3) ?_
      by_cases h4 : r544 = r556
      · replace hf := (if_pos h4).symm.trans hf
        refine go_icY (pc := 559) (pc' := 564) d46_559 (XT.ii_eq_t h4) j_559_5 ?_
        refine go_iinc (pc := 564) (L' := [.val (.ref 0), .val (.ref 1), .val (.ref 10), x3, x4, .val (.int (v5 + (1 : Int32))), x6, x7, x8, x9, x10, x11, x12, x13, x14]) d46_564 rfl ci_1 rfl (go_goto (pc := 567) (pc' := 528) d46_567 j_567_m39 ?_)
        exact ih (v5 + (1 : Int32)) q t0 t1 x3 x4 x6 x7 x8 x9 x10 x11 x12 x13 x14 hx3 hx4 hx6 hx7 hx8 hx9 hx10 hx11 hx12 hx13 hx14 _ hf
      · replace hf := (if_neg h4).symm.trans hf
        refine go_icN (pc := 559) d46_559 (XT.ii_eq_f h4) ?_
        refine go_iconst (pc := 562) d46_562 ci_0 ?_
        cases hf
        exact go_zret (pc := 563) rfl d46_563 (show (0 : Int32) = nar .boolean (0 : Int32) by decide)
    · replace hf := (if_neg h1).symm.trans hf
      refine go_icY (pc := 532) (pc' := 570) d46_532 (XT.ii_ge_t h1) j_532_38 ?_
      refine go_iconst (pc := 570) d46_570 ci_1 ?_
      cases hf
      exact go_zret (pc := 571) rfl d46_571 (show (1 : Int32) = nar .boolean (1 : Int32) by decide)
set_option maxRecDepth 65536 in
set_option maxHeartbeats 4000000 in
theorem law_525_ok  : ∀  (q : List Int32) (t0 : S) (t1 : S) (x3 : Slot) (x4 : Slot) (x5 : Slot) (x6 : Slot) (x7 : Slot) (x8 : Slot) (x9 : Slot) (x10 : Slot) (x11 : Slot) (x12 : Slot) (x13 : Slot) (x14 : Slot) (hx3 : k1 x3) (hx4 : k1 x4) (hx5 : k1 x5) (hx6 : k1 x6) (hx7 : k1 x7) (hx8 : k1 x8) (hx9 : k1 x9) (hx10 : k1 x10) (hx11 : k1 x11) (hx12 : k1 x12) (hx13 : k1 x13) (hx14 : k1 x14) (o : Int32 × S × S), law_525 q t0 t1 = some o → Go PP m46 525 [.val (.ref 0), .val (.ref 1), .val (.ref 10), x3, x4, x5, x6, x7, x8, x9, x10, x11, x12, x13, x14] [] (some q, [(8, t0), (8, t1)]) (some (.int o.1), (some q, [(8, o.2.1), (8, o.2.2)])) := by
  intro q t0 t1 x3 x4 x5 x6 x7 x8 x9 x10 x11 x12 x13 x14 hx3 hx4 hx5 hx6 hx7 hx8 hx9 hx10 hx11 hx12 hx13 hx14 o hf
  unfold law_525 at hf
  refine go_iconst (pc := 525) d46_525 ci_0 (go_istore (pc := 526) (L' := [.val (.ref 0), .val (.ref 1), .val (.ref 10), x3, x4, .val (.int (0 : Int32)), x6, x7, x8, x9, x10, x11, x12, x13, x14]) d46_526 (stx rfl hx5 rfl) ?_)
  exact law_528_ok BIG (0 : Int32) q t0 t1 x3 x4 x6 x7 x8 x9 x10 x11 x12 x13 x14 hx3 hx4 hx6 hx7 hx8 hx9 hx10 hx11 hx12 hx13 hx14 _ hf
set_option maxRecDepth 65536 in
set_option maxHeartbeats 4000000 in
theorem law_463_ok  : ∀ (n : Nat) (v5 : Int32) (q : List Int32) (t0 : S) (t1 : S) (x3 : Slot) (x4 : Slot) (x6 : Slot) (x7 : Slot) (x8 : Slot) (x9 : Slot) (x10 : Slot) (x11 : Slot) (x12 : Slot) (x13 : Slot) (x14 : Slot) (hx3 : k1 x3) (hx4 : k1 x4) (hx6 : k1 x6) (hx7 : k1 x7) (hx8 : k1 x8) (hx9 : k1 x9) (hx10 : k1 x10) (hx11 : k1 x11) (hx12 : k1 x12) (hx13 : k1 x13) (hx14 : k1 x14) (o : Int32 × S × S), law_463 n v5 q t0 t1 = some o → Go PP m46 463 [.val (.ref 0), .val (.ref 1), .val (.ref 10), x3, x4, .val (.int v5), x6, x7, x8, x9, x10, x11, x12, x13, x14] [] (some q, [(8, t0), (8, t1)]) (some (.int o.1), (some q, [(8, o.2.1), (8, o.2.2)])) := by
  intro n
  induction n with
  | zero => intro v5 q t0 t1 x3 x4 x6 x7 x8 x9 x10 x11 x12 x13 x14 hx3 hx4 hx6 hx7 hx8 hx9 hx10 hx11 hx12 hx13 hx14 o hf; exact nomatch hf
  | succ n ih =>
    intro v5 q t0 t1 x3 x4 x6 x7 x8 x9 x10 x11 x12 x13 x14 hx3 hx4 hx6 hx7 hx8 hx9 hx10 hx11 hx12 hx13 hx14 o hf
    unfold law_463 at hf
    refine go_iload (pc := 463) d46_463 rfl (go_bipush (pc := 465) d46_465 cb_8 ?_)
    by_cases h1 : v5 < (8 : Int32)
    · replace hf := (if_pos h1).symm.trans hf
      refine go_icN (pc := 467) d46_467 (XT.ii_ge_f h1) ?_
      refine go_aloadN (pc := 470) d46_470 rfl (go_iload (pc := 471) d46_471 rfl ?_)
      obtain ⟨r473, e2, hf⟩ := Option.bind_eq_some_iff.mp hf
      refine go_virt (pc := 473) (i := 0) (as := [.int v5]) (rest := []) (w' := (some q, [(8, t0), (8, t1)])) lk_1_64 pd_44 rfl oid_0 rfl rfl rfl rfl rfl rfl ⟨rfl, rfl, rfl, rfl, rfl⟩ d46_473 (c_k_frameState v5 t0 _ e2) ?_
      refine go_aloadN (pc := 476) d46_476 rfl (go_iload (pc := 477) d46_477 rfl ?_)
      obtain ⟨r479, e3, hf⟩ := Option.bind_eq_some_iff.mp hf
      refine go_virt (pc := 479) (i := 1) (as := [.int v5]) (rest := [.int r473]) (w' := (some q, [(8, t0), (8, t1)])) lk_1_64 pd_44 rfl oid_1 rfl rfl rfl rfl rfl rfl ⟨rfl, rfl, rfl, rfl, rfl⟩ d46_479 (c_k_frameState v5 t1 _ e3) ?_
      by_cases h4 : r473 = r479
      · replace hf := (if_pos h4).symm.trans hf
        refine go_icN (pc := 482) d46_482 (XT.ii_ne_f h4) ?_
        refine go_aloadN (pc := 485) d46_485 rfl (go_iload (pc := 486) d46_486 rfl ?_)
        obtain ⟨r488, e5, hf⟩ := Option.bind_eq_some_iff.mp hf
        refine go_virt (pc := 488) (i := 0) (as := [.int v5]) (rest := []) (w' := (some q, [(8, t0), (8, t1)])) lk_1_67 pd_45 rfl oid_0 rfl rfl rfl rfl rfl rfl ⟨rfl, rfl, rfl, rfl, rfl⟩ d46_488 (c_k_frameValue v5 t0 _ e5) ?_
        refine go_aloadN (pc := 491) d46_491 rfl (go_iload (pc := 492) d46_492 rfl ?_)
        obtain ⟨r494, e6, hf⟩ := Option.bind_eq_some_iff.mp hf
        refine go_virt (pc := 494) (i := 1) (as := [.int v5]) (rest := [.int r488]) (w' := (some q, [(8, t0), (8, t1)])) lk_1_67 pd_45 rfl oid_1 rfl rfl rfl rfl rfl rfl ⟨rfl, rfl, rfl, rfl, rfl⟩ d46_494 (c_k_frameValue v5 t1 _ e6) ?_
        by_cases h7 : r488 = r494
        · replace hf := (if_pos h7).symm.trans hf
          refine go_icY (pc := 497) (pc' := 502) d46_497 (XT.ii_eq_t h7) j_497_5 ?_
          refine go_aloadN (pc := 502) d46_502 rfl (go_iload (pc := 503) d46_503 rfl ?_)
          obtain ⟨r505, e8, hf⟩ := Option.bind_eq_some_iff.mp hf
          refine go_virt (pc := 505) (i := 0) (as := [.int v5]) (rest := []) (w' := (some q, [(8, t0), (8, t1)])) lk_1_61 pd_43 rfl oid_0 rfl rfl rfl rfl rfl rfl ⟨rfl, rfl, rfl, rfl, rfl⟩ d46_505 (c_k_mapCount v5 t0 _ e8) ?_
          refine go_aloadN (pc := 508) d46_508 rfl (go_iload (pc := 509) d46_509 rfl ?_)
          obtain ⟨r511, e9, hf⟩ := Option.bind_eq_some_iff.mp hf
          refine go_virt (pc := 511) (i := 1) (as := [.int v5]) (rest := [.int r505]) (w' := (some q, [(8, t0), (8, t1)])) lk_1_61 pd_43 rfl oid_1 rfl rfl rfl rfl rfl rfl ⟨rfl, rfl, rfl, rfl, rfl⟩ d46_511 (c_k_mapCount v5 t1 _ e9) ?_
          by_cases h10 : r505 = r511
          · replace hf := (if_pos h10).symm.trans hf
            refine go_icY (pc := 514) (pc' := 519) d46_514 (XT.ii_eq_t h10) j_514_5 ?_
            refine go_iinc (pc := 519) (L' := [.val (.ref 0), .val (.ref 1), .val (.ref 10), x3, x4, .val (.int (v5 + (1 : Int32))), x6, x7, x8, x9, x10, x11, x12, x13, x14]) d46_519 rfl ci_1 rfl (go_goto (pc := 522) (pc' := 463) d46_522 j_522_m59 ?_)
            exact ih (v5 + (1 : Int32)) q t0 t1 x3 x4 x6 x7 x8 x9 x10 x11 x12 x13 x14 hx3 hx4 hx6 hx7 hx8 hx9 hx10 hx11 hx12 hx13 hx14 _ hf
          · replace hf := (if_neg h10).symm.trans hf
            refine go_icN (pc := 514) d46_514 (XT.ii_eq_f h10) ?_
            refine go_iconst (pc := 517) d46_517 ci_0 ?_
            cases hf
            exact go_zret (pc := 518) rfl d46_518 (show (0 : Int32) = nar .boolean (0 : Int32) by decide)
        · replace hf := (if_neg h7).symm.trans hf
          refine go_icN (pc := 497) d46_497 (XT.ii_eq_f h7) ?_
          refine go_iconst (pc := 500) d46_500 ci_0 ?_
          cases hf
          exact go_zret (pc := 501) rfl d46_501 (show (0 : Int32) = nar .boolean (0 : Int32) by decide)
      · replace hf := (if_neg h4).symm.trans hf
        refine go_icY (pc := 482) (pc' := 500) d46_482 (XT.ii_ne_t h4) j_482_18 ?_
        refine go_iconst (pc := 500) d46_500 ci_0 ?_
        cases hf
        exact go_zret (pc := 501) rfl d46_501 (show (0 : Int32) = nar .boolean (0 : Int32) by decide)
    · replace hf := (if_neg h1).symm.trans hf
      refine go_icY (pc := 467) (pc' := 525) d46_467 (XT.ii_ge_t h1) j_467_58 ?_
      exact law_525_ok q t0 t1 x3 x4 (.val (.int v5)) x6 x7 x8 x9 x10 x11 x12 x13 x14 hx3 hx4 (Or.inr ⟨_, rfl, rfl⟩) hx6 hx7 hx8 hx9 hx10 hx11 hx12 hx13 hx14 _ hf
set_option maxRecDepth 65536 in
set_option maxHeartbeats 4000000 in
theorem law_452_ok  : ∀ (v3 : Int32) (v4 : Int32) (q : List Int32) (t0 : S) (t1 : S) (x5 : Slot) (x6 : Slot) (x7 : Slot) (x8 : Slot) (x9 : Slot) (x10 : Slot) (x11 : Slot) (x12 : Slot) (x13 : Slot) (x14 : Slot) (hx5 : k1 x5) (hx6 : k1 x6) (hx7 : k1 x7) (hx8 : k1 x8) (hx9 : k1 x9) (hx10 : k1 x10) (hx11 : k1 x11) (hx12 : k1 x12) (hx13 : k1 x13) (hx14 : k1 x14) (o : Int32 × S × S), law_452 v3 v4 q t0 t1 = some o → Go PP m46 452 [.val (.ref 0), .val (.ref 1), .val (.ref 10), .val (.int v3), .val (.int v4), x5, x6, x7, x8, x9, x10, x11, x12, x13, x14] [] (some q, [(8, t0), (8, t1)]) (some (.int o.1), (some q, [(8, o.2.1), (8, o.2.2)])) := by
  intro v3 v4 q t0 t1 x5 x6 x7 x8 x9 x10 x11 x12 x13 x14 hx5 hx6 hx7 hx8 hx9 hx10 hx11 hx12 hx13 hx14 o hf
  unfold law_452 at hf
  refine go_iload (pc := 452) d46_452 rfl (go_iloadN (pc := 454) d46_454 rfl ?_)
  by_cases h1 : v4 = v3
  · replace hf := (if_pos h1).symm.trans hf
    refine go_icY (pc := 455) (pc' := 460) d46_455 (XT.ii_eq_t h1) j_455_5 ?_
    refine go_iconst (pc := 460) d46_460 ci_0 (go_istore (pc := 461) (L' := [.val (.ref 0), .val (.ref 1), .val (.ref 10), .val (.int v3), .val (.int v4), .val (.int (0 : Int32)), x6, x7, x8, x9, x10, x11, x12, x13, x14]) d46_461 (stx rfl hx5 rfl) ?_)
    exact law_463_ok BIG (0 : Int32) q t0 t1 (.val (.int v3)) (.val (.int v4)) x6 x7 x8 x9 x10 x11 x12 x13 x14 (Or.inr ⟨_, rfl, rfl⟩) (Or.inr ⟨_, rfl, rfl⟩) hx6 hx7 hx8 hx9 hx10 hx11 hx12 hx13 hx14 _ hf
  · replace hf := (if_neg h1).symm.trans hf
    refine go_icN (pc := 455) d46_455 (XT.ii_eq_f h1) ?_
    refine go_iconst (pc := 458) d46_458 ci_0 ?_
    cases hf
    exact go_zret (pc := 459) rfl d46_459 (show (0 : Int32) = nar .boolean (0 : Int32) by decide)
set_option maxRecDepth 65536 in
set_option maxHeartbeats 4000000 in
theorem law_412_ok  : ∀ (n : Nat) (v3 : Int32) (v4 : Int32) (v5 : Int32) (q : List Int32) (t0 : S) (t1 : S) (x6 : Slot) (x7 : Slot) (x8 : Slot) (x9 : Slot) (x10 : Slot) (x11 : Slot) (x12 : Slot) (x13 : Slot) (x14 : Slot) (hx6 : k1 x6) (hx7 : k1 x7) (hx8 : k1 x8) (hx9 : k1 x9) (hx10 : k1 x10) (hx11 : k1 x11) (hx12 : k1 x12) (hx13 : k1 x13) (hx14 : k1 x14) (o : Int32 × S × S), law_412 n v3 v4 v5 q t0 t1 = some o → Go PP m46 412 [.val (.ref 0), .val (.ref 1), .val (.ref 10), .val (.int v3), .val (.int v4), .val (.int v5), x6, x7, x8, x9, x10, x11, x12, x13, x14] [] (some q, [(8, t0), (8, t1)]) (some (.int o.1), (some q, [(8, o.2.1), (8, o.2.2)])) := by
  intro n
  induction n with
  | zero => intro v3 v4 v5 q t0 t1 x6 x7 x8 x9 x10 x11 x12 x13 x14 hx6 hx7 hx8 hx9 hx10 hx11 hx12 hx13 hx14 o hf; exact nomatch hf
  | succ n ih =>
    intro v3 v4 v5 q t0 t1 x6 x7 x8 x9 x10 x11 x12 x13 x14 hx6 hx7 hx8 hx9 hx10 hx11 hx12 hx13 hx14 o hf
    unfold law_412 at hf
    refine go_iload (pc := 412) d46_412 rfl (go_bipush (pc := 414) d46_414 cb_64 ?_)
    by_cases h1 : v5 < (64 : Int32)
    · replace hf := (if_pos h1).symm.trans hf
      refine go_icN (pc := 416) d46_416 (XT.ii_ge_f h1) ?_
      refine go_aloadN (pc := 419) d46_419 rfl (go_iconst (pc := 420) d46_420 ci_1 ?_)
      obtain ⟨r421, e2, hf⟩ := Option.bind_eq_some_iff.mp hf
      refine go_virt (pc := 421) (i := 1) (as := [.int (1 : Int32)]) (rest := []) (w' := (some q, [(8, t0), (8, r421.2)])) lk_1_39 pd_37 rfl oid_1 rfl rfl rfl rfl rfl rfl ⟨rfl, rfl, rfl, rfl, rfl⟩ d46_421 (c_k_compact (1 : Int32) t1 _ e2) ?_
      refine go_istore (pc := 424) (L' := [.val (.ref 0), .val (.ref 1), .val (.ref 10), .val (.int v3), .val (.int v4), .val (.int v5), .val (.int r421.1), x7, x8, x9, x10, x11, x12, x13, x14]) d46_424 (stx rfl hx6 rfl) (go_iload (pc := 426) d46_426 rfl ?_)
      by_cases h3 : r421.1 < 0
      · replace hf := (if_pos h3).symm.trans hf
        refine go_ifY (pc := 428) (pc' := 437) d46_428 (XT.i0_lt_t h3) j_428_9 ?_
        refine go_iconst (pc := 437) d46_437 ci_0 ?_
        cases hf
        exact go_zret (pc := 438) rfl d46_438 (show (0 : Int32) = nar .boolean (0 : Int32) by decide)
      · replace hf := (if_neg h3).symm.trans hf
        refine go_ifN (pc := 428) d46_428 (XT.i0_lt_f h3) ?_
        refine go_iload (pc := 431) d46_431 rfl (go_iconst (pc := 433) d46_433 ci_1 ?_)
        by_cases h4 : (1 : Int32) < r421.1
        · replace hf := (if_pos h4).symm.trans hf
          refine go_icN (pc := 434) d46_434 (XT.ii_le_f h4) ?_
          refine go_iconst (pc := 437) d46_437 ci_0 ?_
          cases hf
          exact go_zret (pc := 438) rfl d46_438 (show (0 : Int32) = nar .boolean (0 : Int32) by decide)
        · replace hf := (if_neg h4).symm.trans hf
          refine go_icY (pc := 434) (pc' := 439) d46_434 (XT.ii_le_t h4) j_434_5 ?_
          refine go_iload (pc := 439) d46_439 rfl (go_iload (pc := 441) d46_441 rfl (go_iadd (pc := 443) d46_443 (go_istore (pc := 444) (L' := [.val (.ref 0), .val (.ref 1), .val (.ref 10), .val (.int v3), .val (.int (v4 + r421.1)), .val (.int v5), .val (.int r421.1), x7, x8, x9, x10, x11, x12, x13, x14]) d46_444 rfl (go_iinc (pc := 446) (L' := [.val (.ref 0), .val (.ref 1), .val (.ref 10), .val (.int v3), .val (.int (v4 + r421.1)), .val (.int (v5 + (1 : Int32))), .val (.int r421.1), x7, x8, x9, x10, x11, x12, x13, x14]) d46_446 rfl ci_1 rfl (go_goto (pc := 449) (pc' := 412) d46_449 j_449_m37 ?_)))))
          exact ih v3 (v4 + r421.1) (v5 + (1 : Int32)) q t0 r421.2 (.val (.int r421.1)) x7 x8 x9 x10 x11 x12 x13 x14 (Or.inr ⟨_, rfl, rfl⟩) hx7 hx8 hx9 hx10 hx11 hx12 hx13 hx14 _ hf
    · replace hf := (if_neg h1).symm.trans hf
      refine go_icY (pc := 416) (pc' := 452) d46_416 (XT.ii_ge_t h1) j_416_36 ?_
      exact law_452_ok v3 v4 q t0 t1 (.val (.int v5)) x6 x7 x8 x9 x10 x11 x12 x13 x14 (Or.inr ⟨_, rfl, rfl⟩) hx6 hx7 hx8 hx9 hx10 hx11 hx12 hx13 hx14 _ hf
set_option maxRecDepth 65536 in
set_option maxHeartbeats 4000000 in
theorem law_406_ok  : ∀ (v3 : Int32) (q : List Int32) (t0 : S) (t1 : S) (x4 : Slot) (x5 : Slot) (x6 : Slot) (x7 : Slot) (x8 : Slot) (x9 : Slot) (x10 : Slot) (x11 : Slot) (x12 : Slot) (x13 : Slot) (x14 : Slot) (hx4 : k1 x4) (hx5 : k1 x5) (hx6 : k1 x6) (hx7 : k1 x7) (hx8 : k1 x8) (hx9 : k1 x9) (hx10 : k1 x10) (hx11 : k1 x11) (hx12 : k1 x12) (hx13 : k1 x13) (hx14 : k1 x14) (o : Int32 × S × S), law_406 v3 q t0 t1 = some o → Go PP m46 406 [.val (.ref 0), .val (.ref 1), .val (.ref 10), .val (.int v3), x4, x5, x6, x7, x8, x9, x10, x11, x12, x13, x14] [] (some q, [(8, t0), (8, t1)]) (some (.int o.1), (some q, [(8, o.2.1), (8, o.2.2)])) := by
  intro v3 q t0 t1 x4 x5 x6 x7 x8 x9 x10 x11 x12 x13 x14 hx4 hx5 hx6 hx7 hx8 hx9 hx10 hx11 hx12 hx13 hx14 o hf
  unfold law_406 at hf
  refine go_iconst (pc := 406) d46_406 ci_0 (go_istore (pc := 407) (L' := [.val (.ref 0), .val (.ref 1), .val (.ref 10), .val (.int v3), .val (.int (0 : Int32)), x5, x6, x7, x8, x9, x10, x11, x12, x13, x14]) d46_407 (stx rfl hx4 rfl) (go_iconst (pc := 409) d46_409 ci_0 (go_istore (pc := 410) (L' := [.val (.ref 0), .val (.ref 1), .val (.ref 10), .val (.int v3), .val (.int (0 : Int32)), .val (.int (0 : Int32)), x6, x7, x8, x9, x10, x11, x12, x13, x14]) d46_410 (stx rfl hx5 rfl) ?_)))
  exact law_412_ok BIG v3 (0 : Int32) (0 : Int32) q t0 t1 x6 x7 x8 x9 x10 x11 x12 x13 x14 hx6 hx7 hx8 hx9 hx10 hx11 hx12 hx13 hx14 _ hf
def T_law_300 (k300 : Int32 → Int32 → List Int32 → S → S → Option (Int32 × S × S)) : Prop := ∀ (v3 : Int32) (v4 : Int32) (q : List Int32) (t0 : S) (t1 : S) (x5 : Slot) (x6 : Slot) (x7 : Slot) (x8 : Slot) (x9 : Slot) (x10 : Slot) (x11 : Slot) (x12 : Slot) (x13 : Slot) (x14 : Slot) (hx5 : k1 x5) (hx6 : k1 x6) (hx7 : k1 x7) (hx8 : k1 x8) (hx9 : k1 x9) (hx10 : k1 x10) (hx11 : k1 x11) (hx12 : k1 x12) (hx13 : k1 x13) (hx14 : k1 x14) (o : Int32 × S × S), k300 v3 v4 q t0 t1 = some o → Go PP m46 300 [.val (.ref 0), .val (.ref 1), .val (.ref 10), .val (.int v3), .val (.int v4), x5, x6, x7, x8, x9, x10, x11, x12, x13, x14] [] (some q, [(8, t0), (8, t1)]) (some (.int o.1), (some q, [(8, o.2.1), (8, o.2.2)]))
set_option maxRecDepth 65536 in
set_option maxHeartbeats 4000000 in
theorem law_372_ok {k300 : Int32 → Int32 → List Int32 → S → S → Option (Int32 × S × S)} (hk300 : T_law_300 k300) : ∀ (v3 : Int32) (v4 : Int32) (v5 : Int32) (p0 : Int32) (p1 : Int32) (q : List Int32) (t0 : S) (t1 : S) (x6 : Slot) (x7 : Slot) (x8 : Slot) (x9 : Slot) (x10 : Slot) (x11 : Slot) (x12 : Slot) (x13 : Slot) (x14 : Slot) (hx6 : k1 x6) (hx7 : k1 x7) (hx8 : k1 x8) (hx9 : k1 x9) (hx10 : k1 x10) (hx11 : k1 x11) (hx12 : k1 x12) (hx13 : k1 x13) (hx14 : k1 x14) (o : Int32 × S × S), law_372 k300 v3 v4 v5 p0 p1 q t0 t1 = some o → Go PP m46 372 [.val (.ref 0), .val (.ref 1), .val (.ref 10), .val (.int v3), .val (.int v4), .val (.int v5), x6, x7, x8, x9, x10, x11, x12, x13, x14] [.int p0, .int p1] (some q, [(8, t0), (8, t1)]) (some (.int o.1), (some q, [(8, o.2.1), (8, o.2.2)])) := by
  intro v3 v4 v5 p0 p1 q t0 t1 x6 x7 x8 x9 x10 x11 x12 x13 x14 hx6 hx7 hx8 hx9 hx10 hx11 hx12 hx13 hx14 o hf
  unfold law_372 at hf
  by_cases h1 : p1 = p0
  · replace hf := (if_pos h1).symm.trans hf
    refine go_icY (pc := 372) (pc' := 377) d46_372 (XT.ii_eq_t h1) j_372_5 ?_
    refine go_iload (pc := 377) d46_377 rfl (go_iconst (pc := 379) d46_379 ci_2 ?_)
    by_cases h2 : v5 = (2 : Int32)
    · replace hf := (if_pos h2).symm.trans hf
      refine go_icN (pc := 380) d46_380 (XT.ii_ne_f h2) ?_
      refine go_aloadN (pc := 383) d46_383 rfl (go_iload (pc := 384) d46_384 rfl ?_)
      obtain ⟨r386, e3, hf⟩ := Option.bind_eq_some_iff.mp hf
      refine go_virt (pc := 386) (i := 0) (as := [.int v4]) (rest := []) (w' := (some q, [(8, t0), (8, t1)])) lk_1_67 pd_45 rfl oid_0 rfl rfl rfl rfl rfl rfl ⟨rfl, rfl, rfl, rfl, rfl⟩ d46_386 (c_k_frameValue v4 t0 _ e3) ?_
      refine go_aloadN (pc := 389) d46_389 rfl (go_iload (pc := 390) d46_390 rfl ?_)
      obtain ⟨r392, e4, hf⟩ := Option.bind_eq_some_iff.mp hf
      refine go_virt (pc := 392) (i := 1) (as := [.int v4]) (rest := [.int r386]) (w' := (some q, [(8, t0), (8, t1)])) lk_1_67 pd_45 rfl oid_1 rfl rfl rfl rfl rfl rfl ⟨rfl, rfl, rfl, rfl, rfl⟩ d46_392 (c_k_frameValue v4 t1 _ e4) ?_
      by_cases h5 : r386 = r392
      · replace hf := (if_pos h5).symm.trans hf
        refine go_icY (pc := 395) (pc' := 400) d46_395 (XT.ii_eq_t h5) j_395_5 ?_
        refine go_iinc (pc := 400) (L' := [.val (.ref 0), .val (.ref 1), .val (.ref 10), .val (.int v3), .val (.int (v4 + (1 : Int32))), .val (.int v5), x6, x7, x8, x9, x10, x11, x12, x13, x14]) d46_400 rfl ci_1 rfl (go_goto (pc := 403) (pc' := 300) d46_403 j_403_m103 ?_)
        exact hk300 v3 (v4 + (1 : Int32)) q t0 t1 (.val (.int v5)) x6 x7 x8 x9 x10 x11 x12 x13 x14 (Or.inr ⟨_, rfl, rfl⟩) hx6 hx7 hx8 hx9 hx10 hx11 hx12 hx13 hx14 _ hf
      · replace hf := (if_neg h5).symm.trans hf
        refine go_icN (pc := 395) d46_395 (XT.ii_eq_f h5) ?_
        refine go_iconst (pc := 398) d46_398 ci_0 ?_
        cases hf
        exact go_zret (pc := 399) rfl d46_399 (show (0 : Int32) = nar .boolean (0 : Int32) by decide)
    · replace hf := (if_neg h2).symm.trans hf
      refine go_icY (pc := 380) (pc' := 400) d46_380 (XT.ii_ne_t h2) j_380_20 ?_
      refine go_iinc (pc := 400) (L' := [.val (.ref 0), .val (.ref 1), .val (.ref 10), .val (.int v3), .val (.int (v4 + (1 : Int32))), .val (.int v5), x6, x7, x8, x9, x10, x11, x12, x13, x14]) d46_400 rfl ci_1 rfl (go_goto (pc := 403) (pc' := 300) d46_403 j_403_m103 ?_)
      exact hk300 v3 (v4 + (1 : Int32)) q t0 t1 (.val (.int v5)) x6 x7 x8 x9 x10 x11 x12 x13 x14 (Or.inr ⟨_, rfl, rfl⟩) hx6 hx7 hx8 hx9 hx10 hx11 hx12 hx13 hx14 _ hf
  · replace hf := (if_neg h1).symm.trans hf
    refine go_icN (pc := 372) d46_372 (XT.ii_eq_f h1) ?_
    refine go_iconst (pc := 375) d46_375 ci_0 ?_
    cases hf
    exact go_zret (pc := 376) rfl d46_376 (show (0 : Int32) = nar .boolean (0 : Int32) by decide)
set_option maxRecDepth 65536 in
set_option maxHeartbeats 4000000 in
theorem law_361_ok {k300 : Int32 → Int32 → List Int32 → S → S → Option (Int32 × S × S)} (hk300 : T_law_300 k300) : ∀ (v3 : Int32) (v4 : Int32) (v5 : Int32) (v6 : Int32) (p0 : Int32) (q : List Int32) (t0 : S) (t1 : S) (x7 : Slot) (x8 : Slot) (x9 : Slot) (x10 : Slot) (x11 : Slot) (x12 : Slot) (x13 : Slot) (x14 : Slot) (hx7 : k1 x7) (hx8 : k1 x8) (hx9 : k1 x9) (hx10 : k1 x10) (hx11 : k1 x11) (hx12 : k1 x12) (hx13 : k1 x13) (hx14 : k1 x14) (o : Int32 × S × S), law_361 k300 v3 v4 v5 v6 p0 q t0 t1 = some o → Go PP m46 361 [.val (.ref 0), .val (.ref 1), .val (.ref 10), .val (.int v3), .val (.int v4), .val (.int v5), .val (.int v6), x7, x8, x9, x10, x11, x12, x13, x14] [.int p0] (some q, [(8, t0), (8, t1)]) (some (.int o.1), (some q, [(8, o.2.1), (8, o.2.2)])) := by
  intro v3 v4 v5 v6 p0 q t0 t1 x7 x8 x9 x10 x11 x12 x13 x14 hx7 hx8 hx9 hx10 hx11 hx12 hx13 hx14 o hf
  unfold law_361 at hf
  refine go_iload (pc := 361) d46_361 rfl (go_iconst (pc := 363) d46_363 ci_3 ?_)
  by_cases h1 : v6 = (3 : Int32)
  · refine go_icN (pc := 364) d46_364 (XT.ii_ne_f h1) ?_
    refine go_iconst (pc := 367) d46_367 ci_1 (go_goto (pc := 368) (pc' := 372) d46_368 j_368_4 ?_)
    exact law_372_ok hk300 v3 v4 v5 (1 : Int32) p0 q t0 t1 (.val (.int v6)) x7 x8 x9 x10 x11 x12 x13 x14 (Or.inr ⟨_, rfl, rfl⟩) hx7 hx8 hx9 hx10 hx11 hx12 hx13 hx14 _ (by simpa only [if_pos h1] using hf)
  · refine go_icY (pc := 364) (pc' := 371) d46_364 (XT.ii_ne_t h1) j_364_7 ?_
    refine go_iconst (pc := 371) d46_371 ci_0 ?_
    exact law_372_ok hk300 v3 v4 v5 (0 : Int32) p0 q t0 t1 (.val (.int v6)) x7 x8 x9 x10 x11 x12 x13 x14 (Or.inr ⟨_, rfl, rfl⟩) hx7 hx8 hx9 hx10 hx11 hx12 hx13 hx14 _ (by simpa only [if_neg h1] using hf)
set_option maxRecDepth 65536 in
set_option maxHeartbeats 4000000 in
theorem law_345_ok {k300 : Int32 → Int32 → List Int32 → S → S → Option (Int32 × S × S)} (hk300 : T_law_300 k300) : ∀ (v3 : Int32) (v4 : Int32) (v5 : Int32) (v6 : Int32) (p0 : Int32) (p1 : Int32) (q : List Int32) (t0 : S) (t1 : S) (x7 : Slot) (x8 : Slot) (x9 : Slot) (x10 : Slot) (x11 : Slot) (x12 : Slot) (x13 : Slot) (x14 : Slot) (hx7 : k1 x7) (hx8 : k1 x8) (hx9 : k1 x9) (hx10 : k1 x10) (hx11 : k1 x11) (hx12 : k1 x12) (hx13 : k1 x13) (hx14 : k1 x14) (o : Int32 × S × S), law_345 k300 v3 v4 v5 v6 p0 p1 q t0 t1 = some o → Go PP m46 345 [.val (.ref 0), .val (.ref 1), .val (.ref 10), .val (.int v3), .val (.int v4), .val (.int v5), .val (.int v6), x7, x8, x9, x10, x11, x12, x13, x14] [.int p0, .int p1] (some q, [(8, t0), (8, t1)]) (some (.int o.1), (some q, [(8, o.2.1), (8, o.2.2)])) := by
  intro v3 v4 v5 v6 p0 p1 q t0 t1 x7 x8 x9 x10 x11 x12 x13 x14 hx7 hx8 hx9 hx10 hx11 hx12 hx13 hx14 o hf
  unfold law_345 at hf
  by_cases h1 : p1 = p0
  · replace hf := (if_pos h1).symm.trans hf
    refine go_icY (pc := 345) (pc' := 350) d46_345 (XT.ii_eq_t h1) j_345_5 ?_
    refine go_iload (pc := 350) d46_350 rfl (go_iconst (pc := 352) d46_352 ci_3 ?_)
    by_cases h2 : v5 = (3 : Int32)
    · refine go_icN (pc := 353) d46_353 (XT.ii_ne_f h2) ?_
      refine go_iconst (pc := 356) d46_356 ci_1 (go_goto (pc := 357) (pc' := 361) d46_357 j_357_4 ?_)
      exact law_361_ok hk300 v3 v4 v5 v6 (1 : Int32) q t0 t1 x7 x8 x9 x10 x11 x12 x13 x14 hx7 hx8 hx9 hx10 hx11 hx12 hx13 hx14 _ (by simpa only [if_pos h2] using hf)
    · refine go_icY (pc := 353) (pc' := 360) d46_353 (XT.ii_ne_t h2) j_353_7 ?_
      refine go_iconst (pc := 360) d46_360 ci_0 ?_
      exact law_361_ok hk300 v3 v4 v5 v6 (0 : Int32) q t0 t1 x7 x8 x9 x10 x11 x12 x13 x14 hx7 hx8 hx9 hx10 hx11 hx12 hx13 hx14 _ (by simpa only [if_neg h2] using hf)
  · replace hf := (if_neg h1).symm.trans hf
    refine go_icN (pc := 345) d46_345 (XT.ii_eq_f h1) ?_
    refine go_iconst (pc := 348) d46_348 ci_0 ?_
    cases hf
    exact go_zret (pc := 349) rfl d46_349 (show (0 : Int32) = nar .boolean (0 : Int32) by decide)
set_option maxRecDepth 65536 in
set_option maxHeartbeats 4000000 in
theorem law_334_ok {k300 : Int32 → Int32 → List Int32 → S → S → Option (Int32 × S × S)} (hk300 : T_law_300 k300) : ∀ (v3 : Int32) (v4 : Int32) (v5 : Int32) (v6 : Int32) (p0 : Int32) (q : List Int32) (t0 : S) (t1 : S) (x7 : Slot) (x8 : Slot) (x9 : Slot) (x10 : Slot) (x11 : Slot) (x12 : Slot) (x13 : Slot) (x14 : Slot) (hx7 : k1 x7) (hx8 : k1 x8) (hx9 : k1 x9) (hx10 : k1 x10) (hx11 : k1 x11) (hx12 : k1 x12) (hx13 : k1 x13) (hx14 : k1 x14) (o : Int32 × S × S), law_334 k300 v3 v4 v5 v6 p0 q t0 t1 = some o → Go PP m46 334 [.val (.ref 0), .val (.ref 1), .val (.ref 10), .val (.int v3), .val (.int v4), .val (.int v5), .val (.int v6), x7, x8, x9, x10, x11, x12, x13, x14] [.int p0] (some q, [(8, t0), (8, t1)]) (some (.int o.1), (some q, [(8, o.2.1), (8, o.2.2)])) := by
  intro v3 v4 v5 v6 p0 q t0 t1 x7 x8 x9 x10 x11 x12 x13 x14 hx7 hx8 hx9 hx10 hx11 hx12 hx13 hx14 o hf
  unfold law_334 at hf
  refine go_iload (pc := 334) d46_334 rfl (go_iconst (pc := 336) d46_336 ci_2 ?_)
  by_cases h1 : v6 = (2 : Int32)
  · refine go_icN (pc := 337) d46_337 (XT.ii_ne_f h1) ?_
    refine go_iconst (pc := 340) d46_340 ci_1 (go_goto (pc := 341) (pc' := 345) d46_341 j_341_4 ?_)
    exact law_345_ok hk300 v3 v4 v5 v6 (1 : Int32) p0 q t0 t1 x7 x8 x9 x10 x11 x12 x13 x14 hx7 hx8 hx9 hx10 hx11 hx12 hx13 hx14 _ (by simpa only [if_pos h1] using hf)
  · refine go_icY (pc := 337) (pc' := 344) d46_337 (XT.ii_ne_t h1) j_337_7 ?_
    refine go_iconst (pc := 344) d46_344 ci_0 ?_
    exact law_345_ok hk300 v3 v4 v5 v6 (0 : Int32) p0 q t0 t1 x7 x8 x9 x10 x11 x12 x13 x14 hx7 hx8 hx9 hx10 hx11 hx12 hx13 hx14 _ (by simpa only [if_neg h1] using hf)
set_option maxRecDepth 65536 in
set_option maxHeartbeats 4000000 in
theorem law_300_ok  : ∀ (n : Nat) (v3 : Int32) (v4 : Int32) (q : List Int32) (t0 : S) (t1 : S) (x5 : Slot) (x6 : Slot) (x7 : Slot) (x8 : Slot) (x9 : Slot) (x10 : Slot) (x11 : Slot) (x12 : Slot) (x13 : Slot) (x14 : Slot) (hx5 : k1 x5) (hx6 : k1 x6) (hx7 : k1 x7) (hx8 : k1 x8) (hx9 : k1 x9) (hx10 : k1 x10) (hx11 : k1 x11) (hx12 : k1 x12) (hx13 : k1 x13) (hx14 : k1 x14) (o : Int32 × S × S), law_300 n v3 v4 q t0 t1 = some o → Go PP m46 300 [.val (.ref 0), .val (.ref 1), .val (.ref 10), .val (.int v3), .val (.int v4), x5, x6, x7, x8, x9, x10, x11, x12, x13, x14] [] (some q, [(8, t0), (8, t1)]) (some (.int o.1), (some q, [(8, o.2.1), (8, o.2.2)])) := by
  intro n
  induction n with
  | zero => intro v3 v4 q t0 t1 x5 x6 x7 x8 x9 x10 x11 x12 x13 x14 hx5 hx6 hx7 hx8 hx9 hx10 hx11 hx12 hx13 hx14 o hf; exact nomatch hf
  | succ n ih =>
    intro v3 v4 q t0 t1 x5 x6 x7 x8 x9 x10 x11 x12 x13 x14 hx5 hx6 hx7 hx8 hx9 hx10 hx11 hx12 hx13 hx14 o hf
    unfold law_300 at hf
    refine go_iload (pc := 300) d46_300 rfl (go_bipush (pc := 302) d46_302 cb_8 ?_)
    by_cases h1 : v4 < (8 : Int32)
    · replace hf := (if_pos h1).symm.trans hf
      refine go_icN (pc := 304) d46_304 (XT.ii_ge_f h1) ?_
      refine go_aloadN (pc := 307) d46_307 rfl (go_iload (pc := 308) d46_308 rfl ?_)
      obtain ⟨r310, e2, hf⟩ := Option.bind_eq_some_iff.mp hf
      refine go_virt (pc := 310) (i := 0) (as := [.int v4]) (rest := []) (w' := (some q, [(8, t0), (8, t1)])) lk_1_64 pd_44 rfl oid_0 rfl rfl rfl rfl rfl rfl ⟨rfl, rfl, rfl, rfl, rfl⟩ d46_310 (c_k_frameState v4 t0 _ e2) ?_
      refine go_istore (pc := 313) (L' := [.val (.ref 0), .val (.ref 1), .val (.ref 10), .val (.int v3), .val (.int v4), .val (.int r310), x6, x7, x8, x9, x10, x11, x12, x13, x14]) d46_313 (stx rfl hx5 rfl) (go_aloadN (pc := 315) d46_315 rfl (go_iload (pc := 316) d46_316 rfl ?_))
      obtain ⟨r318, e3, hf⟩ := Option.bind_eq_some_iff.mp hf
      refine go_virt (pc := 318) (i := 1) (as := [.int v4]) (rest := []) (w' := (some q, [(8, t0), (8, t1)])) lk_1_64 pd_44 rfl oid_1 rfl rfl rfl rfl rfl rfl ⟨rfl, rfl, rfl, rfl, rfl⟩ d46_318 (c_k_frameState v4 t1 _ e3) ?_
      refine go_istore (pc := 321) (L' := [.val (.ref 0), .val (.ref 1), .val (.ref 10), .val (.int v3), .val (.int v4), .val (.int r310), .val (.int r318), x7, x8, x9, x10, x11, x12, x13, x14]) d46_321 (stx rfl hx6 rfl) (go_iload (pc := 323) d46_323 rfl (go_iconst (pc := 325) d46_325 ci_2 ?_))
      by_cases h4 : r310 = (2 : Int32)
      · refine go_icN (pc := 326) d46_326 (XT.ii_ne_f h4) ?_
        refine go_iconst (pc := 329) d46_329 ci_1 (go_goto (pc := 330) (pc' := 334) d46_330 j_330_4 ?_)
        exact law_334_ok ih v3 v4 r310 r318 (1 : Int32) q t0 t1 x7 x8 x9 x10 x11 x12 x13 x14 hx7 hx8 hx9 hx10 hx11 hx12 hx13 hx14 _ (by simpa only [if_pos h4] using hf)
      · refine go_icY (pc := 326) (pc' := 333) d46_326 (XT.ii_ne_t h4) j_326_7 ?_
        refine go_iconst (pc := 333) d46_333 ci_0 ?_
        exact law_334_ok ih v3 v4 r310 r318 (0 : Int32) q t0 t1 x7 x8 x9 x10 x11 x12 x13 x14 hx7 hx8 hx9 hx10 hx11 hx12 hx13 hx14 _ (by simpa only [if_neg h4] using hf)
    · replace hf := (if_neg h1).symm.trans hf
      refine go_icY (pc := 304) (pc' := 406) d46_304 (XT.ii_ge_t h1) j_304_102 ?_
      exact law_406_ok v3 q t0 t1 (.val (.int v4)) x5 x6 x7 x8 x9 x10 x11 x12 x13 x14 (Or.inr ⟨_, rfl, rfl⟩) hx5 hx6 hx7 hx8 hx9 hx10 hx11 hx12 hx13 hx14 _ hf
set_option maxRecDepth 65536 in
set_option maxHeartbeats 4000000 in
theorem law_297_ok  : ∀ (v3 : Int32) (q : List Int32) (t0 : S) (t1 : S) (x4 : Slot) (x5 : Slot) (x6 : Slot) (x7 : Slot) (x8 : Slot) (x9 : Slot) (x10 : Slot) (x11 : Slot) (x12 : Slot) (x13 : Slot) (x14 : Slot) (hx4 : k1 x4) (hx5 : k1 x5) (hx6 : k1 x6) (hx7 : k1 x7) (hx8 : k1 x8) (hx9 : k1 x9) (hx10 : k1 x10) (hx11 : k1 x11) (hx12 : k1 x12) (hx13 : k1 x13) (hx14 : k1 x14) (o : Int32 × S × S), law_297 v3 q t0 t1 = some o → Go PP m46 297 [.val (.ref 0), .val (.ref 1), .val (.ref 10), .val (.int v3), x4, x5, x6, x7, x8, x9, x10, x11, x12, x13, x14] [] (some q, [(8, t0), (8, t1)]) (some (.int o.1), (some q, [(8, o.2.1), (8, o.2.2)])) := by
  intro v3 q t0 t1 x4 x5 x6 x7 x8 x9 x10 x11 x12 x13 x14 hx4 hx5 hx6 hx7 hx8 hx9 hx10 hx11 hx12 hx13 hx14 o hf
  unfold law_297 at hf
  refine go_iconst (pc := 297) d46_297 ci_0 (go_istore (pc := 298) (L' := [.val (.ref 0), .val (.ref 1), .val (.ref 10), .val (.int v3), .val (.int (0 : Int32)), x5, x6, x7, x8, x9, x10, x11, x12, x13, x14]) d46_298 (stx rfl hx4 rfl) ?_)
  exact law_300_ok BIG v3 (0 : Int32) q t0 t1 x5 x6 x7 x8 x9 x10 x11 x12 x13 x14 hx5 hx6 hx7 hx8 hx9 hx10 hx11 hx12 hx13 hx14 _ hf
def T_law_114 (k114 : Int32 → Int32 → List Int32 → S → S → Option (Int32 × S × S)) : Prop := ∀ (v3 : Int32) (v4 : Int32) (q : List Int32) (t0 : S) (t1 : S) (x5 : Slot) (x6 : Slot) (x7 : Slot) (x8 : Slot) (x9 : Slot) (x10 : Slot) (x11 : Slot) (x12 : Slot) (x13 : Slot) (x14 : Slot) (hx5 : k1 x5) (hx6 : k1 x6) (hx7 : k1 x7) (hx8 : k1 x8) (hx9 : k1 x9) (hx10 : k1 x10) (hx11 : k1 x11) (hx12 : k1 x12) (hx13 : k1 x13) (hx14 : k1 x14) (o : Int32 × S × S), k114 v3 v4 q t0 t1 = some o → Go PP m46 114 [.val (.ref 0), .val (.ref 1), .val (.ref 10), .val (.int v3), .val (.int v4), x5, x6, x7, x8, x9, x10, x11, x12, x13, x14] [] (some q, [(8, t0), (8, t1)]) (some (.int o.1), (some q, [(8, o.2.1), (8, o.2.2)]))
set_option maxRecDepth 65536 in
set_option maxHeartbeats 4000000 in
theorem law_240_ok {k114 : Int32 → Int32 → List Int32 → S → S → Option (Int32 × S × S)} (hk114 : T_law_114 k114) : ∀ (v3 : Int32) (v4 : Int32) (v5 : Int32) (v6 : Int32) (v9 : Int32) (v11 : Int32) (p0 : Int32) (p1 : Int32) (q : List Int32) (t0 : S) (t1 : S) (x7 : Slot) (x8 : Slot) (x10 : Slot) (x12 : Slot) (x13 : Slot) (x14 : Slot) (hx7 : k1 x7) (hx8 : k1 x8) (hx10 : k1 x10) (hx12 : k1 x12) (hx13 : k1 x13) (hx14 : k1 x14) (o : Int32 × S × S), law_240 k114 v3 v4 v5 v6 v9 v11 p0 p1 q t0 t1 = some o → Go PP m46 240 [.val (.ref 0), .val (.ref 1), .val (.ref 10), .val (.int v3), .val (.int v4), .val (.int v5), .val (.int v6), x7, x8, .val (.int v9), x10, .val (.int v11), x12, x13, x14] [.int p0, .int p1] (some q, [(8, t0), (8, t1)]) (some (.int o.1), (some q, [(8, o.2.1), (8, o.2.2)])) := by
  intro v3 v4 v5 v6 v9 v11 p0 p1 q t0 t1 x7 x8 x10 x12 x13 x14 hx7 hx8 hx10 hx12 hx13 hx14 o hf
  unfold law_240 at hf
  by_cases h1 : p1 = p0
  · replace hf := (if_pos h1).symm.trans hf
    refine go_icY (pc := 240) (pc' := 245) d46_240 (XT.ii_eq_t h1) j_240_5 ?_
    refine go_aloadN (pc := 245) d46_245 rfl (go_iload (pc := 246) d46_246 rfl (go_iload (pc := 248) d46_248 rfl ?_))
    obtain ⟨r250, e2, hf⟩ := Option.bind_eq_some_iff.mp hf
    refine go_virt (pc := 250) (i := 0) (as := [.int v5, .int v6]) (rest := []) (w' := (some q, [(8, t0), (8, t1)])) lk_1_58 pd_42 rfl oid_0 rfl rfl rfl rfl rfl rfl ⟨rfl, rfl, rfl, rfl, rfl⟩ d46_250 (c_k_read v5 v6 t0 _ e2) ?_
    refine go_aloadN (pc := 253) d46_253 rfl (go_iload (pc := 254) d46_254 rfl (go_iload (pc := 256) d46_256 rfl ?_))
    obtain ⟨r258, e3, hf⟩ := Option.bind_eq_some_iff.mp hf
    refine go_virt (pc := 258) (i := 1) (as := [.int v5, .int v6]) (rest := [.int r250]) (w' := (some q, [(8, t0), (8, t1)])) lk_1_58 pd_42 rfl oid_1 rfl rfl rfl rfl rfl rfl ⟨rfl, rfl, rfl, rfl, rfl⟩ d46_258 (c_k_read v5 v6 t1 _ e3) ?_
    by_cases h4 : r250 = r258
    · replace hf := (if_pos h4).symm.trans hf
      refine go_icY (pc := 261) (pc' := 266) d46_261 (XT.ii_eq_t h4) j_261_5 ?_
      refine go_aloadN (pc := 266) d46_266 rfl (go_iload (pc := 267) d46_267 rfl ?_)
      obtain ⟨r269, e5, hf⟩ := Option.bind_eq_some_iff.mp hf
      refine go_virt (pc := 269) (i := 0) (as := [.int v9]) (rest := []) (w' := (some q, [(8, t0), (8, t1)])) lk_1_61 pd_43 rfl oid_0 rfl rfl rfl rfl rfl rfl ⟨rfl, rfl, rfl, rfl, rfl⟩ d46_269 (c_k_mapCount v9 t0 _ e5) ?_
      refine go_istore (pc := 272) (L' := [.val (.ref 0), .val (.ref 1), .val (.ref 10), .val (.int v3), .val (.int v4), .val (.int v5), .val (.int v6), x7, x8, .val (.int v9), x10, .val (.int v11), x12, .val (.int r269), x14]) d46_272 (stx rfl hx13 rfl) (go_aloadN (pc := 274) d46_274 rfl (go_iload (pc := 275) d46_275 rfl ?_))
      obtain ⟨r277, e6, hf⟩ := Option.bind_eq_some_iff.mp hf
      refine go_virt (pc := 277) (i := 1) (as := [.int v11]) (rest := []) (w' := (some q, [(8, t0), (8, t1)])) lk_1_61 pd_43 rfl oid_1 rfl rfl rfl rfl rfl rfl ⟨rfl, rfl, rfl, rfl, rfl⟩ d46_277 (c_k_mapCount v11 t1 _ e6) ?_
      refine go_istore (pc := 280) (L' := [.val (.ref 0), .val (.ref 1), .val (.ref 10), .val (.int v3), .val (.int v4), .val (.int v5), .val (.int v6), x7, x8, .val (.int v9), x10, .val (.int v11), x12, .val (.int r269), .val (.int r277)]) d46_280 (stx rfl hx14 rfl) (go_iload (pc := 282) d46_282 rfl (go_iload (pc := 284) d46_284 rfl ?_))
      by_cases h7 : r269 = r277
      · replace hf := (if_pos h7).symm.trans hf
        refine go_icY (pc := 286) (pc' := 291) d46_286 (XT.ii_eq_t h7) j_286_5 ?_
        refine go_iinc (pc := 291) (L' := [.val (.ref 0), .val (.ref 1), .val (.ref 10), .val (.int v3), .val (.int (v4 + (1 : Int32))), .val (.int v5), .val (.int v6), x7, x8, .val (.int v9), x10, .val (.int v11), x12, .val (.int r269), .val (.int r277)]) d46_291 rfl ci_1 rfl (go_goto (pc := 294) (pc' := 114) d46_294 j_294_m180 ?_)
        exact hk114 v3 (v4 + (1 : Int32)) q t0 t1 (.val (.int v5)) (.val (.int v6)) x7 x8 (.val (.int v9)) x10 (.val (.int v11)) x12 (.val (.int r269)) (.val (.int r277)) (Or.inr ⟨_, rfl, rfl⟩) (Or.inr ⟨_, rfl, rfl⟩) hx7 hx8 (Or.inr ⟨_, rfl, rfl⟩) hx10 (Or.inr ⟨_, rfl, rfl⟩) hx12 (Or.inr ⟨_, rfl, rfl⟩) (Or.inr ⟨_, rfl, rfl⟩) _ hf
      · replace hf := (if_neg h7).symm.trans hf
        refine go_icN (pc := 286) d46_286 (XT.ii_eq_f h7) ?_
        refine go_iconst (pc := 289) d46_289 ci_0 ?_
        cases hf
        exact go_zret (pc := 290) rfl d46_290 (show (0 : Int32) = nar .boolean (0 : Int32) by decide)
    · replace hf := (if_neg h4).symm.trans hf
      refine go_icN (pc := 261) d46_261 (XT.ii_eq_f h4) ?_
      refine go_iconst (pc := 264) d46_264 ci_0 ?_
      cases hf
      exact go_zret (pc := 265) rfl d46_265 (show (0 : Int32) = nar .boolean (0 : Int32) by decide)
  · replace hf := (if_neg h1).symm.trans hf
    refine go_icN (pc := 240) d46_240 (XT.ii_eq_f h1) ?_
    refine go_iconst (pc := 243) d46_243 ci_0 ?_
    cases hf
    exact go_zret (pc := 244) rfl d46_244 (show (0 : Int32) = nar .boolean (0 : Int32) by decide)
set_option maxRecDepth 65536 in
set_option maxHeartbeats 4000000 in
theorem law_230_ok {k114 : Int32 → Int32 → List Int32 → S → S → Option (Int32 × S × S)} (hk114 : T_law_114 k114) : ∀ (v3 : Int32) (v4 : Int32) (v5 : Int32) (v6 : Int32) (v9 : Int32) (v11 : Int32) (p0 : Int32) (q : List Int32) (t0 : S) (t1 : S) (x7 : Slot) (x8 : Slot) (x10 : Slot) (x12 : Slot) (x13 : Slot) (x14 : Slot) (hx7 : k1 x7) (hx8 : k1 x8) (hx10 : k1 x10) (hx12 : k1 x12) (hx13 : k1 x13) (hx14 : k1 x14) (o : Int32 × S × S), law_230 k114 v3 v4 v5 v6 v9 v11 p0 q t0 t1 = some o → Go PP m46 230 [.val (.ref 0), .val (.ref 1), .val (.ref 10), .val (.int v3), .val (.int v4), .val (.int v5), .val (.int v6), x7, x8, .val (.int v9), x10, .val (.int v11), x12, x13, x14] [.int p0] (some q, [(8, t0), (8, t1)]) (some (.int o.1), (some q, [(8, o.2.1), (8, o.2.2)])) := by
  intro v3 v4 v5 v6 v9 v11 p0 q t0 t1 x7 x8 x10 x12 x13 x14 hx7 hx8 hx10 hx12 hx13 hx14 o hf
  unfold law_230 at hf
  refine go_iload (pc := 230) d46_230 rfl ?_
  by_cases h1 : v11 < 0
  · refine go_ifN (pc := 232) d46_232 (XT.i0_ge_f h1) ?_
    refine go_iconst (pc := 235) d46_235 ci_1 (go_goto (pc := 236) (pc' := 240) d46_236 j_236_4 ?_)
    exact law_240_ok hk114 v3 v4 v5 v6 v9 v11 (1 : Int32) p0 q t0 t1 x7 x8 x10 x12 x13 x14 hx7 hx8 hx10 hx12 hx13 hx14 _ (by simpa only [if_pos h1] using hf)
  · refine go_ifY (pc := 232) (pc' := 239) d46_232 (XT.i0_ge_t h1) j_232_7 ?_
    refine go_iconst (pc := 239) d46_239 ci_0 ?_
    exact law_240_ok hk114 v3 v4 v5 v6 v9 v11 (0 : Int32) p0 q t0 t1 x7 x8 x10 x12 x13 x14 hx7 hx8 hx10 hx12 hx13 hx14 _ (by simpa only [if_neg h1] using hf)
set_option maxRecDepth 65536 in
set_option maxHeartbeats 4000000 in
theorem law_217_ok {k114 : Int32 → Int32 → List Int32 → S → S → Option (Int32 × S × S)} (hk114 : T_law_114 k114) : ∀ (v3 : Int32) (v4 : Int32) (v5 : Int32) (v6 : Int32) (v9 : Int32) (v11 : Int32) (p0 : Int32) (p1 : Int32) (q : List Int32) (t0 : S) (t1 : S) (x7 : Slot) (x8 : Slot) (x10 : Slot) (x12 : Slot) (x13 : Slot) (x14 : Slot) (hx7 : k1 x7) (hx8 : k1 x8) (hx10 : k1 x10) (hx12 : k1 x12) (hx13 : k1 x13) (hx14 : k1 x14) (o : Int32 × S × S), law_217 k114 v3 v4 v5 v6 v9 v11 p0 p1 q t0 t1 = some o → Go PP m46 217 [.val (.ref 0), .val (.ref 1), .val (.ref 10), .val (.int v3), .val (.int v4), .val (.int v5), .val (.int v6), x7, x8, .val (.int v9), x10, .val (.int v11), x12, x13, x14] [.int p0, .int p1] (some q, [(8, t0), (8, t1)]) (some (.int o.1), (some q, [(8, o.2.1), (8, o.2.2)])) := by
  intro v3 v4 v5 v6 v9 v11 p0 p1 q t0 t1 x7 x8 x10 x12 x13 x14 hx7 hx8 hx10 hx12 hx13 hx14 o hf
  unfold law_217 at hf
  by_cases h1 : p1 = p0
  · replace hf := (if_pos h1).symm.trans hf
    refine go_icN (pc := 217) d46_217 (XT.ii_ne_f h1) ?_
    refine go_iload (pc := 220) d46_220 rfl ?_
    by_cases h2 : v9 < 0
    · refine go_ifN (pc := 222) d46_222 (XT.i0_ge_f h2) ?_
      refine go_iconst (pc := 225) d46_225 ci_1 (go_goto (pc := 226) (pc' := 230) d46_226 j_226_4 ?_)
      exact law_230_ok hk114 v3 v4 v5 v6 v9 v11 (1 : Int32) q t0 t1 x7 x8 x10 x12 x13 x14 hx7 hx8 hx10 hx12 hx13 hx14 _ (by simpa only [if_pos h2] using hf)
    · refine go_ifY (pc := 222) (pc' := 229) d46_222 (XT.i0_ge_t h2) j_222_7 ?_
      refine go_iconst (pc := 229) d46_229 ci_0 ?_
      exact law_230_ok hk114 v3 v4 v5 v6 v9 v11 (0 : Int32) q t0 t1 x7 x8 x10 x12 x13 x14 hx7 hx8 hx10 hx12 hx13 hx14 _ (by simpa only [if_neg h2] using hf)
  · replace hf := (if_neg h1).symm.trans hf
    refine go_icY (pc := 217) (pc' := 243) d46_217 (XT.ii_ne_t h1) j_217_26 ?_
    refine go_iconst (pc := 243) d46_243 ci_0 ?_
    cases hf
    exact go_zret (pc := 244) rfl d46_244 (show (0 : Int32) = nar .boolean (0 : Int32) by decide)
set_option maxRecDepth 65536 in
set_option maxHeartbeats 4000000 in
theorem law_205_ok {k114 : Int32 → Int32 → List Int32 → S → S → Option (Int32 × S × S)} (hk114 : T_law_114 k114) : ∀ (v3 : Int32) (v4 : Int32) (v5 : Int32) (v6 : Int32) (v9 : Int32) (v11 : Int32) (v12 : Int32) (p0 : Int32) (q : List Int32) (t0 : S) (t1 : S) (x7 : Slot) (x8 : Slot) (x10 : Slot) (x13 : Slot) (x14 : Slot) (hx7 : k1 x7) (hx8 : k1 x8) (hx10 : k1 x10) (hx13 : k1 x13) (hx14 : k1 x14) (o : Int32 × S × S), law_205 k114 v3 v4 v5 v6 v9 v11 v12 p0 q t0 t1 = some o → Go PP m46 205 [.val (.ref 0), .val (.ref 1), .val (.ref 10), .val (.int v3), .val (.int v4), .val (.int v5), .val (.int v6), x7, x8, .val (.int v9), x10, .val (.int v11), .val (.int v12), x13, x14] [.int p0] (some q, [(8, t0), (8, t1)]) (some (.int o.1), (some q, [(8, o.2.1), (8, o.2.2)])) := by
  intro v3 v4 v5 v6 v9 v11 v12 p0 q t0 t1 x7 x8 x10 x13 x14 hx7 hx8 hx10 hx13 hx14 o hf
  unfold law_205 at hf
  refine go_iload (pc := 205) d46_205 rfl (go_iload (pc := 207) d46_207 rfl ?_)
  by_cases h1 : v11 = v12
  · refine go_icN (pc := 209) d46_209 (XT.ii_ne_f h1) ?_
    refine go_iconst (pc := 212) d46_212 ci_1 (go_goto (pc := 213) (pc' := 217) d46_213 j_213_4 ?_)
    exact law_217_ok hk114 v3 v4 v5 v6 v9 v11 (1 : Int32) p0 q t0 t1 x7 x8 x10 (.val (.int v12)) x13 x14 hx7 hx8 hx10 (Or.inr ⟨_, rfl, rfl⟩) hx13 hx14 _ (by simpa only [if_pos h1] using hf)
  · refine go_icY (pc := 209) (pc' := 216) d46_209 (XT.ii_ne_t h1) j_209_7 ?_
    refine go_iconst (pc := 216) d46_216 ci_0 ?_
    exact law_217_ok hk114 v3 v4 v5 v6 v9 v11 (0 : Int32) p0 q t0 t1 x7 x8 x10 (.val (.int v12)) x13 x14 hx7 hx8 hx10 (Or.inr ⟨_, rfl, rfl⟩) hx13 hx14 _ (by simpa only [if_neg h1] using hf)
set_option maxRecDepth 65536 in
set_option maxHeartbeats 4000000 in
theorem law_114_ok  : ∀ (n : Nat) (v3 : Int32) (v4 : Int32) (q : List Int32) (t0 : S) (t1 : S) (x5 : Slot) (x6 : Slot) (x7 : Slot) (x8 : Slot) (x9 : Slot) (x10 : Slot) (x11 : Slot) (x12 : Slot) (x13 : Slot) (x14 : Slot) (hx5 : k1 x5) (hx6 : k1 x6) (hx7 : k1 x7) (hx8 : k1 x8) (hx9 : k1 x9) (hx10 : k1 x10) (hx11 : k1 x11) (hx12 : k1 x12) (hx13 : k1 x13) (hx14 : k1 x14) (o : Int32 × S × S), law_114 n v3 v4 q t0 t1 = some o → Go PP m46 114 [.val (.ref 0), .val (.ref 1), .val (.ref 10), .val (.int v3), .val (.int v4), x5, x6, x7, x8, x9, x10, x11, x12, x13, x14] [] (some q, [(8, t0), (8, t1)]) (some (.int o.1), (some q, [(8, o.2.1), (8, o.2.2)])) := by
  intro n
  induction n with
  | zero => intro v3 v4 q t0 t1 x5 x6 x7 x8 x9 x10 x11 x12 x13 x14 hx5 hx6 hx7 hx8 hx9 hx10 hx11 hx12 hx13 hx14 o hf; exact nomatch hf
  | succ n ih =>
    intro v3 v4 q t0 t1 x5 x6 x7 x8 x9 x10 x11 x12 x13 x14 hx5 hx6 hx7 hx8 hx9 hx10 hx11 hx12 hx13 hx14 o hf
    unfold law_114 at hf
    refine go_iload (pc := 114) d46_114 rfl (go_sipush (pc := 116) d46_116 cs_256 ?_)
    by_cases h1 : v4 < (256 : Int32)
    · replace hf := (if_pos h1).symm.trans hf
      refine go_icN (pc := 119) d46_119 (XT.ii_ge_f h1) ?_
      refine go_iload (pc := 122) d46_122 rfl (go_iconst (pc := 124) d46_124 ci_4 (go_ishr (pc := 125) d46_125 (go_iconst (pc := 126) d46_126 ci_2 (go_ishr (pc := 127) d46_127 (go_istore (pc := 128) (L' := [.val (.ref 0), .val (.ref 1), .val (.ref 10), .val (.int v3), .val (.int v4), .val (.int ((v4 >>> ((4 : Int32) &&& 31)) >>> ((2 : Int32) &&& 31))), x6, x7, x8, x9, x10, x11, x12, x13, x14]) d46_128 (stx rfl hx5 rfl) (go_iload (pc := 130) d46_130 rfl (go_iconst (pc := 132) d46_132 ci_4 ?_)))))))
      refine go_ishr (pc := 133) d46_133 (go_iconst (pc := 134) d46_134 ci_3 (go_iand (pc := 135) d46_135 (go_istore (pc := 136) (L' := [.val (.ref 0), .val (.ref 1), .val (.ref 10), .val (.int v3), .val (.int v4), .val (.int ((v4 >>> ((4 : Int32) &&& 31)) >>> ((2 : Int32) &&& 31))), .val (.int ((v4 >>> ((4 : Int32) &&& 31)) &&& (3 : Int32))), x7, x8, x9, x10, x11, x12, x13, x14]) d46_136 (stx rfl hx6 rfl) (go_iload (pc := 138) d46_138 rfl (go_bipush (pc := 140) d46_140 cb_15 (go_iand (pc := 142) d46_142 (go_iconst (pc := 143) d46_143 ci_2 ?_)))))))
      refine go_ishr (pc := 144) d46_144 (go_istore (pc := 145) (L' := [.val (.ref 0), .val (.ref 1), .val (.ref 10), .val (.int v3), .val (.int v4), .val (.int ((v4 >>> ((4 : Int32) &&& 31)) >>> ((2 : Int32) &&& 31))), .val (.int ((v4 >>> ((4 : Int32) &&& 31)) &&& (3 : Int32))), .val (.int ((v4 &&& (15 : Int32)) >>> ((2 : Int32) &&& 31))), x8, x9, x10, x11, x12, x13, x14]) d46_145 (stx rfl hx7 rfl) (go_iload (pc := 147) d46_147 rfl (go_iconst (pc := 149) d46_149 ci_3 (go_iand (pc := 150) d46_150 (go_istore (pc := 151) (L' := [.val (.ref 0), .val (.ref 1), .val (.ref 10), .val (.int v3), .val (.int v4), .val (.int ((v4 >>> ((4 : Int32) &&& 31)) >>> ((2 : Int32) &&& 31))), .val (.int ((v4 >>> ((4 : Int32) &&& 31)) &&& (3 : Int32))), .val (.int ((v4 &&& (15 : Int32)) >>> ((2 : Int32) &&& 31))), .val (.int (v4 &&& (3 : Int32))), x9, x10, x11, x12, x13, x14]) d46_151 (stx rfl hx8 rfl) (go_aloadN (pc := 153) d46_153 rfl (go_iload (pc := 154) d46_154 rfl ?_)))))))
      refine go_iload (pc := 156) d46_156 rfl ?_
      obtain ⟨r158, e2, hf⟩ := Option.bind_eq_some_iff.mp hf
      refine go_virt (pc := 158) (i := 0) (as := [.int ((v4 >>> ((4 : Int32) &&& 31)) >>> ((2 : Int32) &&& 31)), .int ((v4 >>> ((4 : Int32) &&& 31)) &&& (3 : Int32))]) (rest := []) (w' := (some q, [(8, t0), (8, t1)])) lk_1_55 pd_41 rfl oid_0 rfl rfl rfl rfl rfl rfl ⟨rfl, rfl, rfl, rfl, rfl⟩ d46_158 (c_k_frameOf ((v4 >>> ((4 : Int32) &&& 31)) >>> ((2 : Int32) &&& 31)) ((v4 >>> ((4 : Int32) &&& 31)) &&& (3 : Int32)) t0 _ e2) ?_
      refine go_istore (pc := 161) (L' := [.val (.ref 0), .val (.ref 1), .val (.ref 10), .val (.int v3), .val (.int v4), .val (.int ((v4 >>> ((4 : Int32) &&& 31)) >>> ((2 : Int32) &&& 31))), .val (.int ((v4 >>> ((4 : Int32) &&& 31)) &&& (3 : Int32))), .val (.int ((v4 &&& (15 : Int32)) >>> ((2 : Int32) &&& 31))), .val (.int (v4 &&& (3 : Int32))), .val (.int r158), x10, x11, x12, x13, x14]) d46_161 (stx rfl hx9 rfl) (go_aloadN (pc := 163) d46_163 rfl (go_iload (pc := 164) d46_164 rfl (go_iload (pc := 166) d46_166 rfl ?_)))
      obtain ⟨r168, e3, hf⟩ := Option.bind_eq_some_iff.mp hf
      refine go_virt (pc := 168) (i := 0) (as := [.int ((v4 &&& (15 : Int32)) >>> ((2 : Int32) &&& 31)), .int (v4 &&& (3 : Int32))]) (rest := []) (w' := (some q, [(8, t0), (8, t1)])) lk_1_55 pd_41 rfl oid_0 rfl rfl rfl rfl rfl rfl ⟨rfl, rfl, rfl, rfl, rfl⟩ d46_168 (c_k_frameOf ((v4 &&& (15 : Int32)) >>> ((2 : Int32) &&& 31)) (v4 &&& (3 : Int32)) t0 _ e3) ?_
      refine go_istore (pc := 171) (L' := [.val (.ref 0), .val (.ref 1), .val (.ref 10), .val (.int v3), .val (.int v4), .val (.int ((v4 >>> ((4 : Int32) &&& 31)) >>> ((2 : Int32) &&& 31))), .val (.int ((v4 >>> ((4 : Int32) &&& 31)) &&& (3 : Int32))), .val (.int ((v4 &&& (15 : Int32)) >>> ((2 : Int32) &&& 31))), .val (.int (v4 &&& (3 : Int32))), .val (.int r158), .val (.int r168), x11, x12, x13, x14]) d46_171 (stx rfl hx10 rfl) (go_aloadN (pc := 173) d46_173 rfl (go_iload (pc := 174) d46_174 rfl (go_iload (pc := 176) d46_176 rfl ?_)))
      obtain ⟨r178, e4, hf⟩ := Option.bind_eq_some_iff.mp hf
      refine go_virt (pc := 178) (i := 1) (as := [.int ((v4 >>> ((4 : Int32) &&& 31)) >>> ((2 : Int32) &&& 31)), .int ((v4 >>> ((4 : Int32) &&& 31)) &&& (3 : Int32))]) (rest := []) (w' := (some q, [(8, t0), (8, t1)])) lk_1_55 pd_41 rfl oid_1 rfl rfl rfl rfl rfl rfl ⟨rfl, rfl, rfl, rfl, rfl⟩ d46_178 (c_k_frameOf ((v4 >>> ((4 : Int32) &&& 31)) >>> ((2 : Int32) &&& 31)) ((v4 >>> ((4 : Int32) &&& 31)) &&& (3 : Int32)) t1 _ e4) ?_
      refine go_istore (pc := 181) (L' := [.val (.ref 0), .val (.ref 1), .val (.ref 10), .val (.int v3), .val (.int v4), .val (.int ((v4 >>> ((4 : Int32) &&& 31)) >>> ((2 : Int32) &&& 31))), .val (.int ((v4 >>> ((4 : Int32) &&& 31)) &&& (3 : Int32))), .val (.int ((v4 &&& (15 : Int32)) >>> ((2 : Int32) &&& 31))), .val (.int (v4 &&& (3 : Int32))), .val (.int r158), .val (.int r168), .val (.int r178), x12, x13, x14]) d46_181 (stx rfl hx11 rfl) (go_aloadN (pc := 183) d46_183 rfl (go_iload (pc := 184) d46_184 rfl (go_iload (pc := 186) d46_186 rfl ?_)))
      obtain ⟨r188, e5, hf⟩ := Option.bind_eq_some_iff.mp hf
      refine go_virt (pc := 188) (i := 1) (as := [.int ((v4 &&& (15 : Int32)) >>> ((2 : Int32) &&& 31)), .int (v4 &&& (3 : Int32))]) (rest := []) (w' := (some q, [(8, t0), (8, t1)])) lk_1_55 pd_41 rfl oid_1 rfl rfl rfl rfl rfl rfl ⟨rfl, rfl, rfl, rfl, rfl⟩ d46_188 (c_k_frameOf ((v4 &&& (15 : Int32)) >>> ((2 : Int32) &&& 31)) (v4 &&& (3 : Int32)) t1 _ e5) ?_
      refine go_istore (pc := 191) (L' := [.val (.ref 0), .val (.ref 1), .val (.ref 10), .val (.int v3), .val (.int v4), .val (.int ((v4 >>> ((4 : Int32) &&& 31)) >>> ((2 : Int32) &&& 31))), .val (.int ((v4 >>> ((4 : Int32) &&& 31)) &&& (3 : Int32))), .val (.int ((v4 &&& (15 : Int32)) >>> ((2 : Int32) &&& 31))), .val (.int (v4 &&& (3 : Int32))), .val (.int r158), .val (.int r168), .val (.int r178), .val (.int r188), x13, x14]) d46_191 (stx rfl hx12 rfl) (go_iload (pc := 193) d46_193 rfl (go_iload (pc := 195) d46_195 rfl ?_))
      by_cases h6 : r158 = r168
      · refine go_icN (pc := 197) d46_197 (XT.ii_ne_f h6) ?_
        refine go_iconst (pc := 200) d46_200 ci_1 (go_goto (pc := 201) (pc' := 205) d46_201 j_201_4 ?_)
        exact law_205_ok ih v3 v4 ((v4 >>> ((4 : Int32) &&& 31)) >>> ((2 : Int32) &&& 31)) ((v4 >>> ((4 : Int32) &&& 31)) &&& (3 : Int32)) r158 r178 r188 (1 : Int32) q t0 t1 (.val (.int ((v4 &&& (15 : Int32)) >>> ((2 : Int32) &&& 31)))) (.val (.int (v4 &&& (3 : Int32)))) (.val (.int r168)) x13 x14 (Or.inr ⟨_, rfl, rfl⟩) (Or.inr ⟨_, rfl, rfl⟩) (Or.inr ⟨_, rfl, rfl⟩) hx13 hx14 _ (by simpa only [if_pos h6] using hf)
      · refine go_icY (pc := 197) (pc' := 204) d46_197 (XT.ii_ne_t h6) j_197_7 ?_
        refine go_iconst (pc := 204) d46_204 ci_0 ?_
        exact law_205_ok ih v3 v4 ((v4 >>> ((4 : Int32) &&& 31)) >>> ((2 : Int32) &&& 31)) ((v4 >>> ((4 : Int32) &&& 31)) &&& (3 : Int32)) r158 r178 r188 (0 : Int32) q t0 t1 (.val (.int ((v4 &&& (15 : Int32)) >>> ((2 : Int32) &&& 31)))) (.val (.int (v4 &&& (3 : Int32)))) (.val (.int r168)) x13 x14 (Or.inr ⟨_, rfl, rfl⟩) (Or.inr ⟨_, rfl, rfl⟩) (Or.inr ⟨_, rfl, rfl⟩) hx13 hx14 _ (by simpa only [if_neg h6] using hf)
    · replace hf := (if_neg h1).symm.trans hf
      refine go_icY (pc := 119) (pc' := 297) d46_119 (XT.ii_ge_t h1) j_119_178 ?_
      exact law_297_ok v3 q t0 t1 (.val (.int v4)) x5 x6 x7 x8 x9 x10 x11 x12 x13 x14 (Or.inr ⟨_, rfl, rfl⟩) hx5 hx6 hx7 hx8 hx9 hx10 hx11 hx12 hx13 hx14 _ hf
set_option maxRecDepth 65536 in
set_option maxHeartbeats 4000000 in
theorem law_91_ok  : ∀  (q : List Int32) (t0 : S) (t1 : S) (x3 : Slot) (x4 : Slot) (hx3 : k1 x3) (hx4 : k1 x4) (o : Int32 × S × S), law_91 q t0 t1 = some o → Go PP m46 91 [.val (.ref 0), .val (.ref 1), .val (.ref 10), x3, x4, .unset, .unset, .unset, .unset, .unset, .unset, .unset, .unset, .unset, .unset] [] (some q, [(8, t0), (8, t1)]) (some (.int o.1), (some q, [(8, o.2.1), (8, o.2.2)])) := by
  intro q t0 t1 x3 x4 hx3 hx4 o hf
  unfold law_91 at hf
  refine go_aloadN (pc := 91) d46_91 rfl (go_bipush (pc := 92) d46_92 cb_64 ?_)
  obtain ⟨r94, e1, hf⟩ := Option.bind_eq_some_iff.mp hf
  refine go_virt (pc := 94) (i := 0) (as := [.int (64 : Int32)]) (rest := []) (w' := (some q, [(8, r94.2), (8, t1)])) lk_1_39 pd_37 rfl oid_0 rfl rfl rfl rfl rfl rfl ⟨rfl, rfl, rfl, rfl, rfl⟩ d46_94 (c_k_compact (64 : Int32) t0 _ e1) ?_
  refine go_istoreN (pc := 97) (L' := [.val (.ref 0), .val (.ref 1), .val (.ref 10), .val (.int r94.1), x4, .unset, .unset, .unset, .unset, .unset, .unset, .unset, .unset, .unset, .unset]) d46_97 (stx rfl hx3 rfl) (go_aloadN (pc := 98) d46_98 rfl ?_)
  refine go_virt (pc := 99) (i := 0) (as := []) (rest := []) (w' := (some q, [(8, r94.2), (8, t1)])) lk_1_51 pd_40 rfl oid_0 rfl rfl rfl rfl rfl rfl ⟨rfl, rfl, rfl, rfl, rfl⟩ d46_99 (c_k_freeCount r94.2) ?_
  refine go_aloadN (pc := 102) d46_102 rfl ?_
  refine go_virt (pc := 103) (i := 1) (as := []) (rest := [.int (k_freeCount r94.2)]) (w' := (some q, [(8, r94.2), (8, t1)])) lk_1_51 pd_40 rfl oid_1 rfl rfl rfl rfl rfl rfl ⟨rfl, rfl, rfl, rfl, rfl⟩ d46_103 (c_k_freeCount t1) ?_
  by_cases h2 : (k_freeCount r94.2) = (k_freeCount t1)
  · replace hf := (if_pos h2).symm.trans hf
    refine go_icY (pc := 106) (pc' := 111) d46_106 (XT.ii_eq_t h2) j_106_5 ?_
    refine go_iconst (pc := 111) d46_111 ci_0 (go_istore (pc := 112) (L' := [.val (.ref 0), .val (.ref 1), .val (.ref 10), .val (.int r94.1), .val (.int (0 : Int32)), .unset, .unset, .unset, .unset, .unset, .unset, .unset, .unset, .unset, .unset]) d46_112 (stx rfl hx4 rfl) ?_)
    exact law_114_ok BIG r94.1 (0 : Int32) q r94.2 t1 .unset .unset .unset .unset .unset .unset .unset .unset .unset .unset (Or.inl rfl) (Or.inl rfl) (Or.inl rfl) (Or.inl rfl) (Or.inl rfl) (Or.inl rfl) (Or.inl rfl) (Or.inl rfl) (Or.inl rfl) (Or.inl rfl) _ hf
  · replace hf := (if_neg h2).symm.trans hf
    refine go_icN (pc := 106) d46_106 (XT.ii_eq_f h2) ?_
    refine go_iconst (pc := 109) d46_109 ci_0 ?_
    cases hf
    exact go_zret (pc := 110) rfl d46_110 (show (0 : Int32) = nar .boolean (0 : Int32) by decide)
set_option maxRecDepth 65536 in
set_option maxHeartbeats 4000000 in
theorem law_24_ok  : ∀ (n : Nat) (v3 : Int32) (q : List Int32) (t0 : S) (t1 : S) (x4 : Slot) (hx4 : k1 x4) (o : Int32 × S × S), law_24 n v3 q t0 t1 = some o → Go PP m46 24 [.val (.ref 0), .val (.ref 1), .val (.ref 10), .val (.int v3), x4, .unset, .unset, .unset, .unset, .unset, .unset, .unset, .unset, .unset, .unset] [] (some q, [(8, t0), (8, t1)]) (some (.int o.1), (some q, [(8, o.2.1), (8, o.2.2)])) := by
  intro n
  induction n with
  | zero => intro v3 q t0 t1 x4 hx4 o hf; exact nomatch hf
  | succ n ih =>
    intro v3 q t0 t1 x4 hx4 o hf
    unfold law_24 at hf
    refine go_iloadN (pc := 24) d46_24 rfl (go_iconst (pc := 25) d46_25 ci_3 (go_iadd (pc := 26) d46_26 (go_aloadN (pc := 27) d46_27 rfl (go_slen (pc := 28) d46_28 ?_))))
    by_cases h1 : (v3 + (3 : Int32)) < q.length.toInt32
    · replace hf := (if_pos h1).symm.trans hf
      refine go_icN (pc := 29) d46_29 (XT.ii_ge_f h1) ?_
      refine go_aloadN (pc := 32) d46_32 rfl (go_iloadN (pc := 33) d46_33 rfl ?_)
      obtain ⟨a34, e2, hf⟩ := Option.bind_eq_some_iff.mp hf
      refine go_sload (pc := 34) e2 d46_34 ?_
      refine go_bipush (pc := 35) d46_35 cb_15 (go_iand (pc := 37) d46_37 (go_bipush (pc := 38) d46_38 cb_9 (go_irem (pc := 40) d46_40 (by decide) (go_istore (pc := 41) (L' := [.val (.ref 0), .val (.ref 1), .val (.ref 10), .val (.int v3), .val (.int ((a34 &&& (15 : Int32)) % (9 : Int32))), .unset, .unset, .unset, .unset, .unset, .unset, .unset, .unset, .unset, .unset]) d46_41 (stx rfl hx4 rfl) (go_aloadN (pc := 43) d46_43 rfl (go_iload (pc := 44) d46_44 rfl (go_aloadN (pc := 46) d46_46 rfl ?_)))))))
      refine go_iloadN (pc := 47) d46_47 rfl (go_iconst (pc := 48) d46_48 ci_1 (go_iadd (pc := 49) d46_49 ?_))
      obtain ⟨a50, e3, hf⟩ := Option.bind_eq_some_iff.mp hf
      refine go_sload (pc := 50) e3 d46_50 ?_
      refine go_aloadN (pc := 51) d46_51 rfl (go_iloadN (pc := 52) d46_52 rfl (go_iconst (pc := 53) d46_53 ci_2 (go_iadd (pc := 54) d46_54 ?_)))
      obtain ⟨a55, e4, hf⟩ := Option.bind_eq_some_iff.mp hf
      refine go_sload (pc := 55) e4 d46_55 ?_
      refine go_aloadN (pc := 56) d46_56 rfl (go_iloadN (pc := 57) d46_57 rfl (go_iconst (pc := 58) d46_58 ci_3 (go_iadd (pc := 59) d46_59 ?_)))
      obtain ⟨a60, e5, hf⟩ := Option.bind_eq_some_iff.mp hf
      refine go_sload (pc := 60) e5 d46_60 ?_
      obtain ⟨r61, e6, hf⟩ := Option.bind_eq_some_iff.mp hf
      refine go_stat (pc := 61) (as := [.ref 1, .int ((a34 &&& (15 : Int32)) % (9 : Int32)), .int a50, .int a55, .int a60]) (rest := []) (w' := (some q, [(8, r61), (8, t1)])) lk_1_45 pd_38 rfl rfl ⟨Nat.le_of_ble_eq_true rfl, Nat.le_of_ble_eq_true rfl⟩ ⟨rfl, rfl, rfl⟩ ⟨rfl, rfl, rfl, rfl, rfl⟩ d46_61 (c_h_step_0_n2 ((a34 &&& (15 : Int32)) % (9 : Int32)) a50 a55 a60 t0 q t1 _ e6) ?_
      refine go_aloadN (pc := 64) d46_64 rfl (go_iload (pc := 65) d46_65 rfl (go_aloadN (pc := 67) d46_67 rfl (go_iloadN (pc := 68) d46_68 rfl (go_iconst (pc := 69) d46_69 ci_1 (go_iadd (pc := 70) d46_70 ?_)))))
      obtain ⟨a71, e7, hf⟩ := Option.bind_eq_some_iff.mp hf
      refine go_sload (pc := 71) e7 d46_71 ?_
      refine go_aloadN (pc := 72) d46_72 rfl (go_iloadN (pc := 73) d46_73 rfl (go_iconst (pc := 74) d46_74 ci_2 (go_iadd (pc := 75) d46_75 ?_)))
      obtain ⟨a76, e8, hf⟩ := Option.bind_eq_some_iff.mp hf
      refine go_sload (pc := 76) e8 d46_76 ?_
      refine go_aloadN (pc := 77) d46_77 rfl (go_iloadN (pc := 78) d46_78 rfl (go_iconst (pc := 79) d46_79 ci_3 (go_iadd (pc := 80) d46_80 ?_)))
      obtain ⟨a81, e9, hf⟩ := Option.bind_eq_some_iff.mp hf
      refine go_sload (pc := 81) e9 d46_81 ?_
      obtain ⟨r82, e10, hf⟩ := Option.bind_eq_some_iff.mp hf
      refine go_stat (pc := 82) (as := [.ref 10, .int ((a34 &&& (15 : Int32)) % (9 : Int32)), .int a71, .int a76, .int a81]) (rest := []) (w' := (some q, [(8, r61), (8, r82)])) lk_1_45 pd_38 rfl rfl ⟨Nat.le_of_ble_eq_true rfl, Nat.le_of_ble_eq_true rfl⟩ ⟨rfl, rfl, rfl⟩ ⟨rfl, rfl, rfl, rfl, rfl⟩ d46_82 (c_h_step_1_n2 ((a34 &&& (15 : Int32)) % (9 : Int32)) a71 a76 a81 t1 q r61 _ e10) ?_
      refine go_iinc (pc := 85) (L' := [.val (.ref 0), .val (.ref 1), .val (.ref 10), .val (.int (v3 + (4 : Int32))), .val (.int ((a34 &&& (15 : Int32)) % (9 : Int32))), .unset, .unset, .unset, .unset, .unset, .unset, .unset, .unset, .unset, .unset]) d46_85 rfl ci_4 rfl (go_goto (pc := 88) (pc' := 24) d46_88 j_88_m64 ?_)
      exact ih (v3 + (4 : Int32)) q r61 r82 (.val (.int ((a34 &&& (15 : Int32)) % (9 : Int32)))) (Or.inr ⟨_, rfl, rfl⟩) _ hf
    · replace hf := (if_neg h1).symm.trans hf
      refine go_icY (pc := 29) (pc' := 91) d46_29 (XT.ii_ge_t h1) j_29_62 ?_
      exact law_91_ok q t0 t1 (.val (.int v3)) x4 (Or.inr ⟨_, rfl, rfl⟩) hx4 _ hf
set_option maxRecDepth 65536 in
set_option maxHeartbeats 4000000 in
theorem law_ok  : ∀  (q : List Int32)  (o : Int32 × S × S), law q = some o → Go PP m46 0 [.val (.ref 0), .unset, .unset, .unset, .unset, .unset, .unset, .unset, .unset, .unset, .unset, .unset, .unset, .unset, .unset] [] (some q, []) (some (.int o.1), (some q, [(8, o.2.1), (8, o.2.2)])) := by
  intro q o hf
  unfold law at hf
  refine go_new (pc := 0) (n := 0) (w' := (some q, [(0, s0)])) (List.mem_of_getElem? (i := 0) rfl) rfl rfl rfl rfl rfl rfl rfl d46_0 oid_0 ?_
  refine go_dupR (pc := 3) d46_3 (go_bipush (pc := 4) d46_4 cb_8 (go_iconst (pc := 6) d46_6 ci_4 ?_))
  obtain ⟨r7, e2, hf⟩ := Option.bind_eq_some_iff.mp hf
  refine go_init (pc := 7) (i := 0) (as := [.int (8 : Int32), .int (4 : Int32)]) (rest := [.ref 1]) (w' := (some q, [(8, r7)])) lk_1_42 pd_3 rfl oid_0 rfl rfl rfl rfl rfl rfl rfl rfl rfl ⟨rfl, rfl, rfl⟩ ⟨rfl, rfl⟩ d46_7 (c_k_init (8 : Int32) (4 : Int32) _ e2) ?_
  refine go_astoreN (pc := 10) (L' := [.val (.ref 0), .val (.ref 1), .unset, .unset, .unset, .unset, .unset, .unset, .unset, .unset, .unset, .unset, .unset, .unset, .unset]) d46_10 rfl ?_
  refine go_new (pc := 11) (n := 1) (w' := (some q, [(8, r7), (0, s0)])) (List.mem_of_getElem? (i := 0) rfl) rfl rfl rfl rfl rfl rfl rfl d46_11 oid_1 ?_
  refine go_dupR (pc := 14) d46_14 (go_bipush (pc := 15) d46_15 cb_8 (go_iconst (pc := 17) d46_17 ci_4 ?_))
  obtain ⟨r18, e4, hf⟩ := Option.bind_eq_some_iff.mp hf
  refine go_init (pc := 18) (i := 1) (as := [.int (8 : Int32), .int (4 : Int32)]) (rest := [.ref 10]) (w' := (some q, [(8, r7), (8, r18)])) lk_1_42 pd_3 rfl oid_1 rfl rfl rfl rfl rfl rfl rfl rfl rfl ⟨rfl, rfl, rfl⟩ ⟨rfl, rfl⟩ d46_18 (c_k_init (8 : Int32) (4 : Int32) _ e4) ?_
  refine go_astoreN (pc := 21) (L' := [.val (.ref 0), .val (.ref 1), .val (.ref 10), .unset, .unset, .unset, .unset, .unset, .unset, .unset, .unset, .unset, .unset, .unset, .unset]) d46_21 rfl (go_iconst (pc := 22) d46_22 ci_0 (go_istoreN (pc := 23) (L' := [.val (.ref 0), .val (.ref 1), .val (.ref 10), .val (.int (0 : Int32)), .unset, .unset, .unset, .unset, .unset, .unset, .unset, .unset, .unset, .unset, .unset]) d46_23 rfl ?_))
  exact law_24_ok BIG (0 : Int32) q r7 r18 .unset (Or.inl rfl) _ hf
def lev (F : Int64) : Nat → Int64
  | 0 => F
  | k + 1 => (lev F k &&& (XT.ushrL (lev F k) ((1 : Int32) <<< ((Int32.ofNat (k + 1) - (1 : Int32)) &&& 31)))) &&& (k_alignMask (Int32.ofNat (k + 1)))
theorem own_reset {N P : Nat} (s : S) (hN : gI s 0 = Int32.ofNat N) (hP : gI s 1 = Int32.ofNat P) (l : ∀ f, f < 7 → (gA s f).length = 64) (l7 : (gB s 7).length = 7) : ∃ t, k_resetAll s = some t ∧ gI t 0 = Int32.ofNat N ∧ gI t 1 = Int32.ofNat P ∧ gL t 2 = k_lowMask (Int32.ofNat N) ∧ gL t 3 = 0 ∧ gL t 4 = 0 ∧ gL t 5 = 0 ∧ gI t 6 = 1 ∧ gA t 0 = rep 64 0 ∧ gA t 1 = rep 64 0 ∧ gA t 2 = rep 64 0 ∧ gA t 3 = rep 64 (-1) ∧ gA t 4 = rep 64 (-1) ∧ gA t 5 = rep 64 (-1) ∧ gA t 6 = rep 64 (-1) ∧ (gB t 7).length = 7 := by
  have nb : nar .byte 0 = 0 := by decide
  obtain ⟨u, e, F, lu, a0, a1, a2, a3, a4, a5, a6⟩ := run_for k_resetAll_2 k_resetAll_63 64 (fun k u => Fx [] [] [0, 1, 2, 3, 4, 5, 6] [] s u ∧ (∀ f, f < 7 → (gA u f).length = 64) ∧ Upto (gA u 0) k 0 ∧ Upto (gA u 1) k 0 ∧ Upto (gA u 2) k 0 ∧ Upto (gA u 3) k (-1) ∧ Upto (gA u 4) k (-1) ∧ Upto (gA u 5) k (-1) ∧ Upto (gA u 6) k (-1)) (by
    intro n k u hk ⟨F, lu, a0, a1, a2, a3, a4, a5, a6⟩
    have h0 := lu 0 (by omega)
    have h1 := lu 1 (by omega)
    have h2 := lu 2 (by omega)
    have h3 := lu 3 (by omega)
    have h4 := lu 4 (by omega)
    have h5 := lu 5 (by omega)
    have h6 := lu 6 (by omega)
    refine ⟨(sA (sA (sA (sA (sA (sA (sA u 0 ((gA u 0).set k 0)) 1 ((gA u 1).set k 0)) 2 ((gA u 2).set k 0)) 3 ((gA u 3).set k (-1))) 4 ((gA u 4).set k (-1))) 5 ((gA u 5).set k (-1))) 6 ((gA u 6).set k (-1))), ?_, ?_⟩
    · rw [k_resetAll_2, if_pos ((lt_lit (by omega)).mpr hk), nb, st_ofNat _ _ (by omega) (by omega), Option.bind_some, st_ofNat _ _ (by omega) (by omega), Option.bind_some, st_ofNat _ _ (by omega) (by omega), Option.bind_some, st_ofNat _ _ (by omega) (by omega), Option.bind_some, st_ofNat _ _ (by omega) (by omega), Option.bind_some, st_ofNat _ _ (by omega) (by omega), Option.bind_some, st_ofNat _ _ (by omega) (by omega), Option.bind_some, ofNat_succ]
    · refine ⟨((((((F.sA (by simp)).sA (by simp)).sA (by simp)).sA (by simp)).sA (by simp)).sA (by simp)).sA (by simp), fun f hf => ?_, ?_, ?_, ?_, ?_, ?_, ?_, ?_⟩
      · have := lu f hf
        simp only [gA_sA]
        split
        · simp [h6]
        split
        · simp [h5]
        split
        · simp [h4]
        split
        · simp [h3]
        split
        · simp [h2]
        split
        · simp [h1]
        split
        · simp [h0]
        · exact this
      · simpa [gA_sA] using a0.set (by omega)
      · simpa [gA_sA] using a1.set (by omega)
      · simpa [gA_sA] using a2.set (by omega)
      · simpa [gA_sA] using a3.set (by omega)
      · simpa [gA_sA] using a4.set (by omega)
      · simpa [gA_sA] using a5.set (by omega)
      · simpa [gA_sA] using a6.set (by omega)) (by
    intro n u _
    rw [k_resetAll_2, if_neg (fun hh => absurd (show 64 < 64 from (lt_lit (by omega)).mp hh) (by omega))]) BIG s (by unfold BIG; omega) ⟨Fx.refl .., l, Upto.zero _ _, Upto.zero _ _, Upto.zero _ _, Upto.zero _ _, Upto.zero _ _, Upto.zero _ _, Upto.zero _ _⟩
  have i0 : gI u 0 = Int32.ofNat N := by rw [F.1 0 (by simp), hN]
  refine ⟨_, e, ?_, ?_, ?_, ?_, ?_, ?_, ?_, ?_, ?_, ?_, ?_, ?_, ?_, ?_, ?_⟩
  all_goals simp [gI_sI, gI_sL, gL_sI, gL_sL, gA_sI, gA_sL, gB_sI, gB_sL, i0]
  · rw [F.1 1 (by simp), hP]
  · exact a0.all (lu 0 (by omega))
  · exact a1.all (lu 1 (by omega))
  · exact a2.all (lu 2 (by omega))
  · exact a3.all (lu 3 (by omega))
  · exact a4.all (lu 4 (by omega))
  · exact a5.all (lu 5 (by omega))
  · exact a6.all (lu 6 (by omega))
  · rw [F.2.2.2 7 (by simp), l7]
theorem own_runs (s : S) (h6 : gI s 6 = 1) (l7 : (gB s 7).length = 7) : ∃ t, k_refreshRuns s = some t ∧ Fx [6] [] [] [7] s t ∧ (∀ k, k < 7 → (gB t 7)[k]? = some (lev (gL s 2) k)) ∧ gI t 6 = 0 ∧ (gB t 7).length = 7 := by
  obtain ⟨c, u, e, F, lu, gu, hc⟩ : ∃ (c : Int64) (u : S), k_refreshRuns_22 BIG (gL s 2) 1 (sB s 7 ((gB s 7).set 0 (gL s 2))) = k_refreshRuns_65 u ∧ Fx [6] [] [] [7] s u ∧ (gB u 7).length = 7 ∧ (∀ j, j ≤ 6 → (gB u 7)[j]? = some (lev (gL s 2) j)) ∧ c = lev (gL s 2) 6 := by
    obtain ⟨⟨c, v, u⟩, e, k, hk, i⟩ := run_loop (fun n (a : Int64 × Int32 × S) => k_refreshRuns_22 n a.1 a.2.1 a.2.2) (fun a => k_refreshRuns_65 a.2.2) (fun m a => ∃ k, k + m = 6 ∧ a.2.1 = Int32.ofNat (k + 1) ∧ a.1 = lev (gL s 2) k ∧ Fx [6] [] [] [7] s a.2.2 ∧ (gB a.2.2 7).length = 7 ∧ ∀ j, j ≤ k → (gB a.2.2 7)[j]? = some (lev (gL s 2) j))
      (by
        rintro n m ⟨c, v, u⟩ ⟨k, h1, h2, h3, F, lu, g⟩
        dsimp only at *
        refine ⟨(lev (gL s 2) (k + 1), Int32.ofNat (k + 2), sB u 7 ((gB u 7).set (k + 1) (lev (gL s 2) (k + 1)))), ?_, k + 1, by omega, rfl, rfl, F.sB (by simp), ?_, ?_⟩
        · show k_refreshRuns_22 (n + 1) _ _ _ = k_refreshRuns_22 n _ _ _
          rw [h2, h3, k_refreshRuns_22, if_neg (fun hh => by rw [show (6 : Int32) = Int32.ofNat 6 from rfl, ofNat_lt (by omega) (by omega)] at hh; omega)]
          rw [show ((lev (gL s 2) k &&& (XT.ushrL (lev (gL s 2) k) ((1 : Int32) <<< ((Int32.ofNat (k + 1) - (1 : Int32)) &&& 31)))) &&& (k_alignMask (Int32.ofNat (k + 1)))) = lev (gL s 2) (k + 1) from rfl, st_ofNat _ _ (by omega) (by omega), Option.bind_some, ofNat_succ]
        · simp [gB_sB, lu]
        · intro j hj
          rw [gB_sB, if_pos rfl]
          by_cases q : j = k + 1
          · subst q; rw [List.getElem?_set_self (by omega)]
          · rw [List.getElem?_set_ne (by omega)]; exact g j (by omega))
      (by
        rintro n ⟨c, v, u⟩ ⟨k, h1, h2, _⟩
        dsimp only at *
        show k_refreshRuns_22 (n + 1) _ _ _ = _
        rw [h2, k_refreshRuns_22, if_pos (by rw [show (6 : Int32) = Int32.ofNat 6 from rfl, ofNat_lt (by omega) (by omega)]; omega)]) 6 BIG (gL s 2, 1, sB s 7 ((gB s 7).set 0 (gL s 2))) (by unfold BIG; omega) ⟨0, by omega, rfl, rfl, (Fx.refl ..).sB (by simp), by simp [gB_sB, l7], fun j hj => by
          have : j = 0 := by omega
          subst this
          rw [gB_sB, if_pos rfl, List.getElem?_set_self (by omega)]; rfl⟩
    obtain ⟨_, h2, F, lu, g⟩ := i
    dsimp only at *
    have : k = 6 := by omega
    subst this
    exact ⟨c, u, e, F, lu, g, h2⟩
  refine ⟨sI u 6 0, ?_, F.sI (by simp), ?_, by rw [gI_sI, if_pos rfl], by rw [gB_sI]; exact lu⟩
  · unfold k_refreshRuns
    rw [h6, if_neg (by decide), show (0 : Int32) = Int32.ofNat 0 from rfl, st_ofNat _ _ (by omega) (by omega), Option.bind_some]
    exact e
  · intro k hk
    rw [gB_sI]; exact gu k (by omega)
/-! ### sets of frames as words below 256 -/
def clr (m i : Nat) : Nat := if m.testBit i then m - 2 ^ i else m
def put (m i : Nat) : Nat := clr m i + 2 ^ i
theorem w_clr : ∀ m : Fin 256, ∀ i : Fin 8, Int64.ofNat m.val &&& (k_bitOf (Int32.ofNat i.val) ^^^ (-1)) = Int64.ofNat (clr m.val i.val) ∧ (Int64.ofNat m.val &&& (k_bitOf (Int32.ofNat i.val) ^^^ (-1))) ||| k_bitOf (Int32.ofNat i.val) = Int64.ofNat (put m.val i.val) := by decide +kernel
theorem n_clr : ∀ m : Fin 256, ∀ i : Fin 8, clr m.val i.val < 256 ∧ put m.val i.val < 256 ∧ ∀ j : Fin 8, (clr m.val i.val).testBit j.val = (m.val.testBit j.val && decide (j ≠ i)) ∧ (put m.val i.val).testBit j.val = (m.val.testBit j.val || decide (j = i)) := by decide +kernel
theorem w_zero : ∀ m : Fin 256, (Int64.ofNat m.val = 0 ↔ m.val = 0) := by decide +kernel
def low (m : Nat) : Nat := if m.testBit 0 then 0 else if m.testBit 1 then 1 else if m.testBit 2 then 2 else if m.testBit 3 then 3 else if m.testBit 4 then 4 else if m.testBit 5 then 5 else if m.testBit 6 then 6 else 7
def high (m : Nat) : Nat := if m.testBit 7 then 7 else if m.testBit 6 then 6 else if m.testBit 5 then 5 else if m.testBit 4 then 4 else if m.testBit 3 then 3 else if m.testBit 2 then 2 else if m.testBit 1 then 1 else 0
theorem w_low : ∀ m : Fin 256, m.val ≠ 0 → k_lowestBit (Int64.ofNat m.val) = Int32.ofNat (low m.val) ∧ m.val.testBit (low m.val) = true ∧ low m.val < 8 ∧ ∀ j : Fin 8, j.val < low m.val → m.val.testBit j.val = false := by decide +kernel
theorem w_high : ∀ m : Fin 256, m.val ≠ 0 → k_highestBit (Int64.ofNat m.val) = Int32.ofNat (high m.val) ∧ m.val.testBit (high m.val) = true ∧ high m.val < 8 ∧ ∀ j : Fin 8, high m.val < j.val → m.val.testBit j.val = false := by decide +kernel
theorem w_cnt : ∀ m : Fin 256, k_bitCount (Int64.ofNat m.val) = Int32.ofNat ((List.range 8).countP fun i => m.val.testBit i) := by decide +kernel
def rng (lo hi : Nat) : Nat := if hi ≤ lo then 0 else 2 ^ hi - 2 ^ lo
theorem w_rng : ∀ lo hi : Fin 9, k_rangeMask (Int32.ofNat lo.val) (Int32.ofNat hi.val) = Int64.ofNat (rng lo.val hi.val) ∧ rng lo.val hi.val < 256 ∧ ∀ j : Fin 8, (rng lo.val hi.val).testBit j.val = decide (lo.val ≤ j.val ∧ j.val < hi.val) := by decide +kernel
/-! ### the lists of pages -/
def hdI : List Nat → Int32
  | [] => -1
  | x :: _ => Int32.ofNat x
def setHd (pv : List Int32) (v : Int32) : List Nat → List Int32
  | [] => pv
  | y :: _ => pv.set y v
def lastI (p : Int32) : Option Nat → Int32
  | none => p
  | some y => Int32.ofNat y
def setLast (nx : List Int32) (n : Int32) : Option Nat → List Int32
  | none => nx
  | some y => nx.set y n
def hdOr (n h : Int32) : List Nat → Int32
  | [] => n
  | _ :: _ => h
/-- the list l hangs at h, the page before it being p -/
def Ch (nx pv : List Int32) : Int32 → Int32 → List Nat → Prop
  | _, h, [] => h = -1
  | p, h, x :: r => h = Int32.ofNat x ∧ x < 64 ∧ pv[x]? = some p ∧ ∃ n, nx[x]? = some n ∧ Ch nx pv (Int32.ofNat x) n r
theorem Ch.congr {nx pv nx' pv' : List Int32} : ∀ {p h : Int32} {l : List Nat}, Ch nx pv p h l → (∀ x ∈ l, nx'[x]? = nx[x]? ∧ pv'[x]? = pv[x]?) → Ch nx' pv' p h l
  | _, _, [], c, _ => c
  | p, h, x :: r, ⟨c1, c2, c3, n, c4, c5⟩, g => ⟨c1, c2, by rw [(g x (List.mem_cons_self ..)).2]; exact c3, n, by rw [(g x (List.mem_cons_self ..)).1]; exact c4, c5.congr fun y hy => g y (List.mem_cons_of_mem _ hy)⟩
theorem Ch.lt {nx pv : List Int32} : ∀ {p h : Int32} {l : List Nat}, Ch nx pv p h l → ∀ x ∈ l, x < 64
  | _, _, [], _, _, hx => nomatch hx
  | p, h, y :: r, ⟨_, c2, _, n, _, c5⟩, x, hx => by
    rcases List.mem_cons.mp hx with e | e
    · rw [e]; exact c2
    · exact c5.lt x e
/-- the page before the list may be another one -/
theorem Ch.repl {nx pv pv' : List Int32} {p p' h : Int32} {x : Nat} {r : List Nat} (c : Ch nx pv p h (x :: r)) (g : ∀ y ∈ r, pv'[y]? = pv[y]?) (gx : pv'[x]? = some p') : Ch nx pv' p' h (x :: r) := by
  obtain ⟨c1, c2, c3, n, c4, c5⟩ := c
  exact ⟨c1, c2, gx, n, c4, c5.congr fun y hy => ⟨rfl, g y hy⟩⟩
theorem Ch.head {nx pv : List Int32} {p h : Int32} {l : List Nat} (c : Ch nx pv p h l) : h = hdI l := by
  cases l with
  | nil => exact c
  | cons x r => exact c.1
/-- putting a page before a list -/
theorem Ch.link {nx pv : List Int32} {h : Int32} {l : List Nat} {x : Nat} (c : Ch nx pv (-1) h l) (hx : x < 64) (hxl : x ∉ l) (nd : l.Nodup) (ln : nx.length = 64) (lp : pv.length = 64) :
    Ch (nx.set x h) (setHd (pv.set x (-1)) (Int32.ofNat x) l) (-1) (Int32.ofNat x) (x :: l) := by
  cases l with
  | nil => exact ⟨rfl, hx, by show (pv.set x (-1))[x]? = _; rw [List.getElem?_set_self (by omega)], h, by rw [List.getElem?_set_self (by omega)], c⟩
  | cons y r =>
    have hyx : y ≠ x := fun e => hxl (by rw [e]; exact List.mem_cons_self ..)
    have hy := c.2.1
    have hyr : y ∉ r := (List.nodup_cons.mp nd).1
    refine ⟨rfl, hx, ?_, h, ?_, ?_⟩
    · show ((pv.set x (-1)).set y (Int32.ofNat x))[x]? = _
      rw [List.getElem?_set_ne hyx, List.getElem?_set_self (by omega)]
    · rw [List.getElem?_set_self (by omega)]
    · show Ch (nx.set x h) ((pv.set x (-1)).set y (Int32.ofNat x)) _ _ _
      have c' : Ch (nx.set x h) pv (-1) h (y :: r) := c.congr fun z hz => ⟨by rw [List.getElem?_set_ne (fun e => hxl (by rw [e]; exact hz))], rfl⟩
      refine c'.repl (fun z hz => ?_) ?_
      · rw [List.getElem?_set_ne (fun e => hyr (by rw [e]; exact hz)), List.getElem?_set_ne (fun e => hxl (by rw [e]; exact List.mem_cons_of_mem _ hz))]
      · rw [List.getElem?_set_self (by simp; omega)]
/-- taking a page out of a list: what it says of its neighbours, and the list behind it -/
theorem Ch.find {nx pv : List Int32} : ∀ {p h : Int32} {l1 l2 : List Nat} {x : Nat}, Ch nx pv p h (l1 ++ x :: l2) → ∃ n, nx[x]? = some n ∧ pv[x]? = some (lastI p l1.getLast?) ∧ Ch nx pv (Int32.ofNat x) n l2
  | p, h, [], l2, x, ⟨_, _, c3, n, c4, c5⟩ => ⟨n, c4, c3, c5⟩
  | p, h, y :: r, l2, x, ⟨_, _, _, n, _, c5⟩ => by
    obtain ⟨m, g1, g2, g3⟩ := c5.find
    refine ⟨m, g1, ?_, g3⟩
    rw [g2]
    cases r with
    | nil => rfl
    | cons z r =>
      rw [List.getLast?_cons_cons]
      cases e : (z :: r).getLast? with
      | none => simp at e
      | some w => rfl
theorem Ch.unlink {nx pv : List Int32} (ln : nx.length = 64) (lp : pv.length = 64) : ∀ {p h : Int32} {l1 l2 : List Nat} {x : Nat} {n : Int32}, Ch nx pv p h (l1 ++ x :: l2) → (l1 ++ x :: l2).Nodup → nx[x]? = some n →
    Ch (setLast nx n l1.getLast?) (setHd pv (lastI p l1.getLast?) l2) p (hdOr n h l1) (l1 ++ l2)
  | p, h, [], l2, x, n, c, nd, hn => by
    obtain ⟨_, _, _, m, c4, c5⟩ := c
    rw [hn] at c4
    cases c4
    cases l2 with
    | nil => exact c5
    | cons z r =>
      have nd2 : (z :: r).Nodup := (List.nodup_cons.mp nd).2
      have hz := c5.2.1
      refine c5.repl (fun y hy => ?_) ?_
      · show (pv.set z _)[y]? = _
        rw [List.getElem?_set_ne (fun e => (List.nodup_cons.mp nd2).1 (by rw [e]; exact hy))]
      · show (pv.set z _)[z]? = _
        rw [List.getElem?_set_self (by omega)]; rfl
  | p, h, y :: r, l2, x, n, c, nd, hn => by
    obtain ⟨c1, c2, c3, m, c4, c5⟩ := c
    have nd' : (r ++ x :: l2).Nodup := (List.nodup_cons.mp nd).2
    have hy' : y ∉ r ++ x :: l2 := (List.nodup_cons.mp nd).1
    have IH := Ch.unlink ln lp c5 nd' hn
    cases r with
    | nil =>
      dsimp only [List.nil_append] at IH ⊢
      refine ⟨c1, c2, ?_, n, ?_, ?_⟩
      · cases l2 with
        | nil => exact c3
        | cons z q =>
          show (pv.set z _)[y]? = _
          rw [List.getElem?_set_ne (fun e => hy' (by rw [← e]; simp))]; exact c3
      · show (nx.set y n)[y]? = _
        rw [List.getElem?_set_self (by omega)]
      · show Ch (nx.set y n) _ _ _ _
        refine IH.congr fun w hw => ⟨?_, rfl⟩
        show (nx.set y n)[w]? = nx[w]?
        rw [List.getElem?_set_ne (fun e => hy' (by rw [e]; simp [hw]))]
    | cons z q =>
      have e1 : (y :: z :: q).getLast? = (z :: q).getLast? := by simp [List.getLast?_cons_cons]
      rw [e1]
      have hlast : ∃ w, (z :: q).getLast? = some w ∧ w ∈ z :: q := by
        cases e : (z :: q).getLast? with
        | none => simp at e
        | some w => exact ⟨w, rfl, List.mem_of_getLast? e⟩
      obtain ⟨w, ew, hw⟩ := hlast
      rw [ew] at IH ⊢
      simp only [setLast, lastI, hdOr] at IH ⊢
      have hyw : w ≠ y := fun e => hy' (by rw [← e]; exact List.mem_append_left _ hw)
      refine ⟨c1, c2, ?_, m, ?_, IH⟩
      · cases l2 with
        | nil => exact c3
        | cons z' q' =>
          show (pv.set z' _)[y]? = _
          rw [List.getElem?_set_ne (fun e => hy' (by rw [← e]; simp))]; exact c3
      · rw [List.getElem?_set_ne hyw]; exact c4
/-! ### the parts of a compactor with 8 frames and 4 pages a process -/
def Geo (s : S) : Prop := gI s 0 = 8 ∧ gI s 1 = 4 ∧ (gA s 0).length = 64 ∧ (gA s 1).length = 64 ∧ (gA s 2).length = 64 ∧ (gA s 3).length = 64 ∧ (gA s 4).length = 64 ∧ (gA s 5).length = 64 ∧ (gA s 6).length = 64 ∧ (gB s 7).length = 7 ∧ (gI s 6 = 0 ∨ gI s 6 = 1)
def RS (s : S) (st : Nat → Nat) : Prop := (∀ f, f < 8 → st f ≤ 3 ∧ (gA s 0)[f]? = some (Int32.ofNat (st f))) ∧ (∃ m, m < 256 ∧ gL s 2 = Int64.ofNat m ∧ ∀ f, f < 8 → m.testBit f = decide (st f = 0)) ∧ (∃ m, m < 256 ∧ gL s 3 = Int64.ofNat m ∧ ∀ f, f < 8 → m.testBit f = decide (st f = 1)) ∧ (gI s 6 = 0 → ∀ k, k < 7 → (gB s 7)[k]? = some (lev (gL s 2) k))
theorem inr_yes {s : S} (h : gI s 0 = 8) {f : Nat} (hf : f < 8) : k_frameInRange (Int32.ofNat f) s = 1 := by
  unfold k_frameInRange
  rw [if_neg (ofNat_nonneg (by omega)), h, if_pos ((lt_lit (by omega)).mpr hf)]
theorem enter_ok {s : S} {st : Nat → Nat} (G : Geo s) (R : RS s st) {f x : Nat} (hf : f < 8) (hx : x ≤ 3) : ∃ s', k_enterState (Int32.ofNat f) (Int32.ofNat x) s = some s' ∧ Fx [6] [2, 3, 4, 5] [0] [] s s' ∧ Geo s' ∧ RS s' (aupd st f x) := by
  obtain ⟨g0, g1, l0, l1, l2, l3, l4, l5, l6, l7, g6⟩ := id G
  obtain ⟨r1, ⟨m2, h2, e2, b2⟩, ⟨m3, h3, e3, b3⟩, r4⟩ := id R
  have w2 := w_clr ⟨m2, h2⟩ ⟨f, hf⟩
  have w3 := w_clr ⟨m3, h3⟩ ⟨f, hf⟩
  have n2 := n_clr ⟨m2, h2⟩ ⟨f, hf⟩
  have n3 := n_clr ⟨m3, h3⟩ ⟨f, hf⟩
  dsimp only at w2 w3 n2 n3
  have nb : ∀ x : Fin 4, nar .byte (Int32.ofNat x.val).toInt8.toInt32 = Int32.ofNat x.val := by decide
  have nbx := nb ⟨x, by omega⟩
  dsimp only at nbx
  have F0 : Fx [6] [2, 3, 4, 5] [0] [] s s := Fx.refl ..
  have w2' := w2
  have w3' := w3
  simp at w2' w3'
  have fin : ∀ t : S, Fx [6] [2, 3, 4, 5] [0] [] s t → gA t 0 = gA s 0 → gL t 2 = Int64.ofNat (if x = 0 then put m2 f else clr m2 f) → gL t 3 = Int64.ofNat (if x = 1 then put m3 f else clr m3 f) → ∃ s', k_enterState_134 (Int32.ofNat f) (Int32.ofNat x) t = some s' ∧ Fx [6] [2, 3, 4, 5] [0] [] s s' ∧ Geo s' ∧ RS s' (aupd st f x) := by
    intro t F a0 a2 a3
    refine ⟨sI (sA t 0 ((gA s 0).set f (Int32.ofNat x))) 6 1, ?_, (F.sA (by simp)).sI (by simp), ?_, ?_⟩
    · unfold k_enterState_134
      rw [a0, nbx, st_ofNat _ _ (by omega) (by omega), Option.bind_some]
    · have A : ∀ g, g ≠ 0 → gA (sI (sA t 0 ((gA s 0).set f (Int32.ofNat x))) 6 1) g = gA s g := fun g hg => by rw [gA_sI, gA_sA, if_neg hg, F.2.2.1 g (by simpa using hg)]
      refine ⟨?_, ?_, ?_, ?_, ?_, ?_, ?_, ?_, ?_, ?_, ?_⟩
      · rw [gI_sI, if_neg (by decide), gI_sA, F.1 0 (by simp), g0]
      · rw [gI_sI, if_neg (by decide), gI_sA, F.1 1 (by simp), g1]
      · rw [gA_sI, gA_sA, if_pos rfl, List.length_set, l0]
      · rw [A 1 (by decide), l1]
      · rw [A 2 (by decide), l2]
      · rw [A 3 (by decide), l3]
      · rw [A 4 (by decide), l4]
      · rw [A 5 (by decide), l5]
      · rw [A 6 (by decide), l6]
      · rw [gB_sI, gB_sA, F.2.2.2 7 (by simp), l7]
      · right; rw [gI_sI, if_pos rfl]
    · refine ⟨fun g hg => ?_, ⟨_, ?_, by rw [gL_sI, gL_sA]; exact a2, fun g hg => ?_⟩, ⟨_, ?_, by rw [gL_sI, gL_sA]; exact a3, fun g hg => ?_⟩, fun q => ?_⟩
      · rw [gA_sI, gA_sA, if_pos rfl]
        unfold aupd
        by_cases q : g = f
        · subst q; rw [if_pos rfl, List.getElem?_set_self (by omega)]; exact ⟨hx, rfl⟩
        · rw [if_neg q, List.getElem?_set_ne (by omega)]; exact r1 g hg
      · split
        · exact n2.2.1
        · exact n2.1
      · have := n2.2.2 ⟨g, hg⟩
        dsimp only at this
        unfold aupd
        by_cases q : g = f
        · subst q
          by_cases r : x = 0
          · rw [if_pos r, if_pos rfl, this.2]; simp [r]
          · rw [if_neg r, if_pos rfl, this.1]; simp [r]
        · have q' : ¬ (⟨g, hg⟩ : Fin 8) = ⟨f, hf⟩ := fun e => q (Fin.mk.inj e)
          rw [if_neg q]
          by_cases r : x = 0
          · rw [if_pos r, this.2, b2 g hg]; simp [q']
          · rw [if_neg r, this.1, b2 g hg]; simp [q']
      · split
        · exact n3.2.1
        · exact n3.1
      · have := n3.2.2 ⟨g, hg⟩
        dsimp only at this
        unfold aupd
        by_cases q : g = f
        · subst q
          by_cases r : x = 1
          · rw [if_pos r, if_pos rfl, this.2]; simp [r]
          · rw [if_neg r, if_pos rfl, this.1]; simp [r]
        · have q' : ¬ (⟨g, hg⟩ : Fin 8) = ⟨f, hf⟩ := fun e => q (Fin.mk.inj e)
          rw [if_neg q]
          by_cases r : x = 1
          · rw [if_pos r, this.2, b3 g hg]; simp [q']
          · rw [if_neg r, this.1, b3 g hg]; simp [q']
      · rw [gI_sI, if_pos rfl] at q; cases q
  unfold k_enterState
  rw [inr_yes g0 hf, if_neg (by decide)]
  have x4 : x = 0 ∨ x = 1 ∨ x = 2 ∨ x = 3 := by omega
  rcases x4 with rfl | rfl | rfl | rfl
  · rw [if_pos (show Int32.ofNat 0 = 0 from rfl)]
    exact fin _ (((((F0.sL (by simp)).sL (by simp)).sL (by simp)).sL (by simp)).sL (by simp)) (by simp only [gA_sL]) (by simp [gL_sL, e2, w2'.2]) (by simp [gL_sL, e3, w3'.1])
  · rw [if_neg (by decide), if_pos (show Int32.ofNat 1 = 1 from rfl)]
    exact fin _ (((((F0.sL (by simp)).sL (by simp)).sL (by simp)).sL (by simp)).sL (by simp)) (by simp only [gA_sL]) (by simp [gL_sL, e2, w2'.1]) (by simp [gL_sL, e3, w3'.2])
  · rw [if_neg (by decide), if_neg (by decide), if_pos (show Int32.ofNat 2 = 2 from rfl)]
    exact fin _ (((((F0.sL (by simp)).sL (by simp)).sL (by simp)).sL (by simp)).sL (by simp)) (by simp only [gA_sL]) (by simp [gL_sL, e2, w2'.1]) (by simp [gL_sL, e3, w3'.1])
  · rw [if_neg (by decide), if_neg (by decide), if_neg (by decide)]
    exact fin _ (((((F0.sL (by simp)).sL (by simp)).sL (by simp)).sL (by simp)).sL (by simp)) (by simp only [gA_sL]) (by simp [gL_sL, e2, w2'.1]) (by simp [gL_sL, e3, w3'.1])
def pcode : Option Nat → Int32
  | none => -1
  | some f => Int32.ofNat f
def RV (s : S) (val : Nat → Int32) : Prop := ∀ f, f < 8 → (gA s 1)[f]? = some (val f)
def RC (s : S) (c : Nat → Nat) : Prop := ∀ f, f < 8 → (gA s 2)[f]? = some (Int32.ofNat (c f))
def RP (s : S) (pf : Nat → Option Nat) : Prop := ∀ x, x < 64 → (gA s 3)[x]? = some (pcode (pf x))
def RM (s : S) (ls : Nat → List Nat) : Prop := ∀ f, f < 8 → ∃ h, (gA s 4)[f]? = some h ∧ Ch (gA s 5) (gA s 6) (-1) h (ls f)
def Dj (ls : Nat → List Nat) : Prop := (∀ f, f < 8 → (ls f).Nodup) ∧ ∀ f g x, f < 8 → g < 8 → x ∈ ls f → x ∈ ls g → f = g
theorem Geo.same {s t : S} (G : Geo s) (F : Fx [] [] [1, 2, 3, 4, 5, 6] [] s t) (l1 : (gA t 1).length = 64) (l2 : (gA t 2).length = 64) (l3 : (gA t 3).length = 64) (l4 : (gA t 4).length = 64) (l5 : (gA t 5).length = 64) (l6 : (gA t 6).length = 64) : Geo t := by
  obtain ⟨g0, g1, k0, _, _, _, _, _, _, k7, g6⟩ := id G
  exact ⟨by rw [F.1 0 (by simp)]; exact g0, by rw [F.1 1 (by simp)]; exact g1, by rw [F.2.2.1 0 (by simp)]; exact k0, l1, l2, l3, l4, l5, l6, by rw [F.2.2.2 7 (by simp)]; exact k7, by rw [F.1 6 (by simp)]; exact g6⟩
theorem link_ok {s : S} {pf : Nat → Option Nat} {ls : Nat → List Nat} (G : Geo s) (P : RP s pf) (M : RM s ls) (D : Dj ls) {x t : Nat} (hx : x < 64) (ht : t < 8) (hn : ∀ f, f < 8 → x ∉ ls f) : ∃ s', k_rmapLink (Int32.ofNat x) (Int32.ofNat t) s = some s' ∧ Fx [] [] [3, 4, 5, 6] [] s s' ∧ Geo s' ∧ RP s' (aupd pf x (some t)) ∧ RM s' (aupd ls t (x :: ls t)) := by
  obtain ⟨g0, g1, l0, l1, l2, l3, l4, l5, l6, l7, g6⟩ := id G
  obtain ⟨h, e4, c⟩ := M t ht
  have F0 : Fx [] [] [3, 4, 5, 6] [] s s := Fx.refl ..
  have hd := c.head
  obtain ⟨pv, hpv⟩ : ∃ pv, pv = setHd ((gA s 6).set x (-1)) (Int32.ofNat x) (ls t) := ⟨_, rfl⟩
  have lpv : pv.length = 64 := by rw [hpv]; cases ls t <;> simp [setHd, l6]
  have c' : Ch ((gA s 5).set x h) pv (-1) (Int32.ofNat x) (x :: ls t) := by
    rw [hpv]; exact c.link hx (hn t ht) (D.1 t ht) l5 l6
  obtain ⟨s', hs'⟩ : ∃ s', s' = sA (sA (sA (sA s 6 pv) 5 ((gA s 5).set x h)) 4 ((gA s 4).set t (Int32.ofNat x))) 3 ((gA s 3).set x (Int32.ofNat t)) := ⟨_, rfl⟩
  have a3 : gA s' 3 = (gA s 3).set x (Int32.ofNat t) := by rw [hs']; simp [gA_sA]
  have a4 : gA s' 4 = (gA s 4).set t (Int32.ofNat x) := by rw [hs']; simp [gA_sA]
  have a5 : gA s' 5 = (gA s 5).set x h := by rw [hs']; simp [gA_sA]
  have a6 : gA s' 6 = pv := by rw [hs']; simp [gA_sA]
  have F : Fx [] [] [3, 4, 5, 6] [] s s' := by rw [hs']; exact (((F0.sA (by simp)).sA (by simp)).sA (by simp)).sA (by simp)
  refine ⟨s', ?_, F, G.same (F.mono (by simp) (by simp) (by simp) (by simp)) (by rw [F.2.2.1 1 (by simp)]; exact l1) (by rw [F.2.2.1 2 (by simp)]; exact l2) (by rw [a3, List.length_set]; exact l3) (by rw [a4, List.length_set]; exact l4) (by rw [a5, List.length_set]; exact l5) (by rw [a6]; exact lpv), ?_, ?_⟩
  · unfold k_rmapLink k_rmapLink_38
    rw [ix_ofNat _ (by omega), e4, Option.bind_some, st_ofNat _ _ (by omega) (by omega), Option.bind_some, st_ofNat _ _ (by omega) (by omega), Option.bind_some]
    cases hl : ls t with
    | nil =>
      rw [hl] at hd hpv
      simp only [hdI, setHd] at hd hpv
      rw [hd, if_pos (by decide)]
      simp only [gA_sA]
      rw [if_neg (by decide), if_neg (by decide), if_neg (by decide), if_neg (by decide), st_ofNat _ _ (by omega) (by omega), Option.bind_some, st_ofNat _ _ (by omega) (by omega), Option.bind_some, hs', hpv, hd]
    | cons y r =>
      rw [hl] at hd hpv c
      simp only [hdI, setHd] at hd hpv
      have hy := c.2.1
      rw [hd, if_neg (ofNat_nonneg (by omega)), if_pos ((lt_lit (by omega)).mpr hy), st_ofNat _ _ (by omega) (by simp [l6]; omega), Option.bind_some]
      simp only [gA_sA]
      rw [if_neg (by decide), if_neg (by decide), if_neg (by decide), if_neg (by decide), if_neg (by decide), if_neg (by decide), st_ofNat _ _ (by omega) (by omega), Option.bind_some, st_ofNat _ _ (by omega) (by omega), Option.bind_some, hs', hpv, hd]
      rw [sA_comm _ (show (5 : Nat) ≠ 6 by decide), sA_same]
  · intro z hz
    rw [a3]
    unfold aupd
    by_cases q : z = x
    · subst q; rw [if_pos rfl, List.getElem?_set_self (by omega)]; rfl
    · rw [if_neg q, List.getElem?_set_ne (by omega)]; exact P z hz
  · intro f hf
    rw [a4, a5, a6]
    unfold aupd
    by_cases q : f = t
    · subst q
      rw [if_pos rfl, List.getElem?_set_self (by omega)]
      exact ⟨_, rfl, c'⟩
    · rw [if_neg q, List.getElem?_set_ne (by omega)]
      obtain ⟨h', e', k'⟩ := M f hf
      refine ⟨h', e', k'.congr fun z hz => ⟨?_, ?_⟩⟩
      · rw [List.getElem?_set_ne (fun e => hn f hf (by rw [e]; exact hz))]
      · rw [hpv]
        cases hl : ls t with
        | nil => simp only [setHd]; rw [List.getElem?_set_ne (fun e => hn f hf (by rw [e]; exact hz))]
        | cons y r =>
          simp only [setHd]
          rw [List.getElem?_set_ne (fun e => q (D.2 f t z hf ht hz (by rw [hl, ← e]; exact List.mem_cons_self ..))), List.getElem?_set_ne (fun e => hn f hf (by rw [e]; exact hz))]
theorem unlink_ok {s : S} {pf : Nat → Option Nat} {ls : Nat → List Nat} (G : Geo s) (P : RP s pf) (M : RM s ls) (D : Dj ls) {x t : Nat} {l1 l2 : List Nat} (hx : x < 64) (ht : t < 8) (hp : pf x = some t) (hl : ls t = l1 ++ x :: l2) : ∃ s', k_rmapUnlink (Int32.ofNat x) s = some (Int32.ofNat t, s') ∧ Fx [] [] [3, 4, 5, 6] [] s s' ∧ Geo s' ∧ RP s' (aupd pf x none) ∧ RM s' (aupd ls t (l1 ++ l2)) := by
  obtain ⟨g0, g1, l0, k1, k2, l3, l4, l5, l6, l7, g6⟩ := id G
  obtain ⟨h, e4, c⟩ := M t ht
  have nd := D.1 t ht
  rw [hl] at c nd
  obtain ⟨n, en, ep, cr⟩ := c.find
  have hn := cr.head
  have F0 : Fx [] [] [3, 4, 5, 6] [] s s := Fx.refl ..
  have cu := Ch.unlink l5 l6 c nd en
  have lts : ∀ y ∈ l1 ++ x :: l2, y < 64 := c.lt
  have xl : x ∉ l1 ++ l2 := fun q => by
    rw [List.nodup_append] at nd
    rcases List.mem_append.mp q with q | q
    · exact nd.2.2 x q x (List.mem_cons_self ..) rfl
    · exact (List.nodup_cons.mp nd.2.1).1 q
  have e3 : (gA s 3)[x]? = some (Int32.ofNat t) := by rw [P x hx, hp]; rfl
  obtain ⟨A4, hA4⟩ : ∃ A, A = (match l1 with | [] => (gA s 4).set t n | _ :: _ => gA s 4) := ⟨_, rfl⟩
  obtain ⟨A5, hA5⟩ : ∃ A, A = setLast (gA s 5) n l1.getLast? := ⟨_, rfl⟩
  obtain ⟨A6, hA6⟩ : ∃ A, A = setHd (gA s 6) (lastI (-1) l1.getLast?) l2 := ⟨_, rfl⟩
  have m4 : A4.length = 64 := by rw [hA4]; split <;> simp [l4]
  have m5 : A5.length = 64 := by rw [hA5]; cases l1.getLast? <;> simp [setLast, l5]
  have m6 : A6.length = 64 := by rw [hA6]; cases l2 <;> simp [setHd, l6]
  -- the last rows
  have last : ∀ (u : S) (v : Int32), gA u 6 = A6 → gA u 5 = A5 → gA u 3 = gA s 3 → k_rmapUnlink_95 (Int32.ofNat x) v u = some (v, sA (sA (sA u 6 (A6.set x (-1))) 5 (A5.set x (-1))) 3 ((gA s 3).set x (-1))) := fun u v h6 h5 h3 => by
    unfold k_rmapUnlink_95
    rw [h6, h5, h3, st_ofNat _ _ (by omega) (by omega), Option.bind_some, st_ofNat _ _ (by omega) (by omega), Option.bind_some, st_ofNat _ _ (by omega) (by omega), Option.bind_some]
  have mid : ∀ (u : S), gA u 6 = gA s 6 → gA u 5 = A5 → gA u 3 = gA s 3 → gA u 4 = A4 → Fx [] [] [3, 4, 5, 6] [] s u → ∃ s', k_rmapUnlink_75 (Int32.ofNat x) (Int32.ofNat t) (lastI (-1) l1.getLast?) n u = some (Int32.ofNat t, s') ∧ Fx [] [] [3, 4, 5, 6] [] s s' ∧ gA s' 3 = (gA s 3).set x (-1) ∧ gA s' 4 = A4 ∧ gA s' 5 = A5.set x (-1) ∧ gA s' 6 = A6.set x (-1) := fun u h6 h5 h3 h4 F => by
    unfold k_rmapUnlink_75
    cases hq : l2 with
    | nil =>
      rw [hq] at hn hA6
      simp only [hdI] at hn
      simp only [setHd] at hA6
      rw [hn, if_pos (by decide), last u _ (by rw [h6, hA6]) h5 h3]
      exact ⟨_, rfl, ((F.sA (by simp)).sA (by simp)).sA (by simp), by simp [gA_sA], by simp [gA_sA, h4], by simp [gA_sA], by simp [gA_sA]⟩
    | cons z r =>
      rw [hq] at hn hA6
      simp only [hdI] at hn
      simp only [setHd] at hA6
      have hz : z < 64 := lts z (by rw [hq]; simp)
      rw [hn, if_neg (ofNat_nonneg (by omega)), if_pos ((lt_lit (by omega)).mpr hz), h6, st_ofNat _ _ (by omega) (by omega), Option.bind_some, last _ _ (by rw [gA_sA, if_pos rfl, hA6]) (by rw [gA_sA, if_neg (by decide), h5]) (by rw [gA_sA, if_neg (by decide), h3])]
      exact ⟨_, rfl, (((F.sA (by simp)).sA (by simp)).sA (by simp)).sA (by simp), by simp [gA_sA], by simp [gA_sA, h4], by simp [gA_sA], by simp [gA_sA]⟩
  have go : ∃ s', k_rmapUnlink (Int32.ofNat x) s = some (Int32.ofNat t, s') ∧ Fx [] [] [3, 4, 5, 6] [] s s' ∧ gA s' 3 = (gA s 3).set x (-1) ∧ gA s' 4 = A4 ∧ gA s' 5 = A5.set x (-1) ∧ gA s' 6 = A6.set x (-1) := by
    unfold k_rmapUnlink
    rw [if_neg (ofNat_nonneg (by omega)), if_pos ((lt_lit (by omega)).mpr hx), ix_ofNat _ (by omega), e3, Option.bind_some, if_neg (ofNat_nonneg (by omega)), if_pos ((lt_lit (by omega)).mpr (show t < 64 by omega)), ix_ofNat _ (by omega), ep, Option.bind_some, ix_ofNat _ (by omega), en, Option.bind_some]
    cases hq : l1 with
    | nil =>
      rw [hq] at hA4 hA5 mid
      dsimp only at hA4
      change A5 = gA s 5 at hA5
      show ∃ s', (if (-1 : Int32) < 0 then k_rmapUnlink_67 (Int32.ofNat x) (Int32.ofNat t) (-1) n s else _) = _ ∧ _
      rw [if_pos (by decide)]
      unfold k_rmapUnlink_67
      rw [st_ofNat _ _ (by omega) (by omega), Option.bind_some]
      exact mid _ (by simp [gA_sA]) (by simp [gA_sA, hA5]) (by simp [gA_sA]) (by simp [gA_sA, hA4]) (F0.sA (by simp))
    | cons y r =>
      have hlast : ∃ w, l1.getLast? = some w ∧ w ∈ l1 := by
        cases e : l1.getLast? with
        | none => rw [hq] at e; simp at e
        | some w => exact ⟨w, rfl, List.mem_of_getLast? e⟩
      obtain ⟨w, ew, hw⟩ := hlast
      have hw64 : w < 64 := lts w (List.mem_append_left _ hw)
      rw [← hq]
      rw [ew] at hA5 mid ⊢
      change A5 = (gA s 5).set w n at hA5
      show ∃ s', (if Int32.ofNat w < 0 then _ else if Int32.ofNat w < 64 then (Jvm.AM.st (gA s 5) (Int32.ofNat w) n).bind fun a63 => k_rmapUnlink_75 (Int32.ofNat x) (Int32.ofNat t) (Int32.ofNat w) n (sA s 5 a63) else _) = _ ∧ _
      rw [hq] at hA4
      dsimp only at hA4
      rw [if_neg (ofNat_nonneg (by omega)), if_pos ((lt_lit (by omega)).mpr hw64), st_ofNat _ _ (by omega) (by omega), Option.bind_some]
      exact mid _ (by simp [gA_sA]) (by simp [gA_sA, hA5]) (by simp [gA_sA]) (by simp [gA_sA, hA4]) (F0.sA (by simp))
  obtain ⟨s', es, F, a3, a4, a5, a6⟩ := go
  refine ⟨s', es, F, G.same (F.mono (by simp) (by simp) (by simp) (by simp)) (by rw [F.2.2.1 1 (by simp)]; exact k1) (by rw [F.2.2.1 2 (by simp)]; exact k2) (by rw [a3, List.length_set]; exact l3) (by rw [a4]; exact m4) (by rw [a5, List.length_set]; exact m5) (by rw [a6, List.length_set]; exact m6), ?_, ?_⟩
  · intro z hz
    rw [a3]
    unfold aupd
    by_cases q : z = x
    · subst q; rw [if_pos rfl, List.getElem?_set_self (by omega)]; rfl
    · rw [if_neg q, List.getElem?_set_ne (by omega)]; exact P z hz
  · intro f hf
    rw [a4, a5, a6]
    unfold aupd
    by_cases q : f = t
    · subst q
      rw [if_pos rfl]
      refine ⟨hdOr n h l1, ?_, ?_⟩
      · rw [hA4]
        cases l1 with
        | nil => simp only [hdOr]; rw [List.getElem?_set_self (by omega)]
        | cons y r => simp only [hdOr]; exact e4
      · rw [← hA5, ← hA6] at cu
        exact cu.congr fun z hz => ⟨by rw [List.getElem?_set_ne (fun e => xl (by rw [e]; exact hz))], by rw [List.getElem?_set_ne (fun e => xl (by rw [e]; exact hz))]⟩
    · rw [if_neg q]
      obtain ⟨h', e', c'⟩ := M f hf
      have dj : ∀ z ∈ ls f, z ∉ l1 ++ x :: l2 := fun z hz hz' => q (D.2 f t z hf ht hz (by rw [hl]; exact hz'))
      refine ⟨h', ?_, c'.congr fun z hz => ?_⟩
      · rw [hA4]
        cases l1 with
        | nil => dsimp only; rw [List.getElem?_set_ne (by omega)]; exact e'
        | cons y r => exact e'
      · have z1 : z ≠ x := fun e => dj z hz (by rw [e]; simp)
        refine ⟨?_, ?_⟩
        · rw [List.getElem?_set_ne z1.symm, hA5]
          cases e : l1.getLast? with
          | none => rfl
          | some w =>
            simp only [setLast]
            rw [List.getElem?_set_ne (fun e2 => dj z hz (by rw [← e2]; exact List.mem_append_left _ (List.mem_of_getLast? e)))]
        · rw [List.getElem?_set_ne z1.symm, hA6]
          cases e : l2 with
          | nil => rfl
          | cons w r =>
            simp only [setHd]
            rw [List.getElem?_set_ne (fun e2 => dj z hz (by rw [← e2, e]; simp))]
def setAll (v : Int32) : List Nat → List Int32 → List Int32
  | [], A => A
  | x :: r, A => setAll v r (A.set x v)
theorem setAll_len (v : Int32) : ∀ (l : List Nat) (A : List Int32), (setAll v l A).length = A.length
  | [], _ => rfl
  | x :: r, A => by simp [setAll, setAll_len v r]
theorem setAll_get (v : Int32) : ∀ (l : List Nat) (A : List Int32) (z : Nat), z < A.length → (setAll v l A)[z]? = if z ∈ l then some v else A[z]?
  | [], A, z, _ => by simp [setAll]
  | x :: r, A, z, hz => by
    simp only [setAll]
    rw [setAll_get v r _ z (by simpa using hz)]
    by_cases q : z ∈ r
    · rw [if_pos q, if_pos (List.mem_cons_of_mem _ q)]
    · rw [if_neg q]
      by_cases e : z = x
      · subst e; rw [List.getElem?_set_self hz, if_pos (List.mem_cons_self ..)]
      · rw [List.getElem?_set_ne (Ne.symm e), if_neg (fun h => (List.mem_cons.mp h).elim e q)]
theorem transfer_loop (v1 v2 : Int32) : ∀ (l : List Nat) (n i : Nat) (p h : Int32) (s : S), Ch (gA s 5) (gA s 6) p h l → (gA s 3).length = 64 → i + l.length ≤ 64 → l.length < n → k_rmapTransfer_10 n v1 v2 h (Int32.ofNat i) s = k_rmapTransfer_47 v1 v2 (sA s 3 (setAll v2 l (gA s 3)))
  | [], 0, i, p, h, s, c, l3, hi, hn => absurd hn (by simp)
  | [], n + 1, i, p, h, s, c, l3, hi, hn => by
    have e : sA s 3 (setAll v2 [] (gA s 3)) = s := by
      simp only [setAll]
      unfold Jvm.AM.sA gA
      have : aupd s.2.2.1 3 (s.2.2.1 3) = s.2.2.1 := by funext x; unfold aupd; by_cases q : x = 3 <;> simp [q]
      rw [this]
    rw [k_rmapTransfer_10, e]
    have hh : h = -1 := c
    rw [hh, if_pos (show (-1 : Int32) < 0 by decide)]
    split <;> rfl
  | x :: r, 0, i, p, h, s, c, l3, hi, hn => absurd hn (by simp)
  | x :: r, n + 1, i, p, h, s, c, l3, hi, hn => by
    obtain ⟨c1, c2, c3, m, c4, c5⟩ := c
    simp only [List.length_cons] at hi hn
    rw [k_rmapTransfer_10, if_pos ((lt_lit (by omega)).mpr (show i < 64 by omega)), c1, if_neg (ofNat_nonneg (by omega)), if_pos ((lt_lit (by omega)).mpr c2), st_ofNat _ _ (by omega) (by omega), Option.bind_some, ix_ofNat _ (by omega), c4, Option.bind_some, ofNat_succ]
    rw [transfer_loop v1 v2 r n (i + 1) (Int32.ofNat x) m (sA s 3 ((gA s 3).set x v2)) (by rw [gA_sA, if_neg (by decide), gA_sA, if_neg (by decide)]; exact c5) (by rw [gA_sA, if_pos rfl, List.length_set]; exact l3) (by omega) (by omega)]
    rw [sA_same, gA_sA, if_pos rfl]; rfl
theorem nodup_len {l : List Nat} (nd : l.Nodup) {n : Nat} (h : ∀ x ∈ l, x < n) : l.length ≤ n := by
  have := List.Nodup.length_le_of_subset nd (l₂ := List.range n) (fun x hx => List.mem_range.mpr (h x hx))
  simpa using this
theorem transfer_ok {s : S} {pf : Nat → Option Nat} {ls : Nat → List Nat} (G : Geo s) (P : RP s pf) (M : RM s ls) (D : Dj ls) {f g : Nat} (hf : f < 8) (hg : g < 8) (hne : f ≠ g) (hgl : ls g = []) : ∃ s', k_rmapTransfer (Int32.ofNat f) (Int32.ofNat g) s = some s' ∧ Fx [] [] [3, 4] [] s s' ∧ Geo s' ∧ RP s' (fun x => if x ∈ ls f then some g else pf x) ∧ RM s' (aupd (aupd ls g (ls f)) f []) := by
  obtain ⟨g0, g1, l0, k1, k2, l3, l4, l5, l6, l7, g6⟩ := id G
  obtain ⟨h, e4, c⟩ := M f hf
  have hlen := nodup_len (D.1 f hf) c.lt
  have F0 : Fx [] [] [3, 4] [] s s := Fx.refl ..
  obtain ⟨s', hs'⟩ : ∃ s', s' = sA (sA s 3 (setAll (Int32.ofNat g) (ls f) (gA s 3))) 4 (((gA s 4).set g h).set f (-1)) := ⟨_, rfl⟩
  have F : Fx [] [] [3, 4] [] s s' := by rw [hs']; exact (F0.sA (by simp)).sA (by simp)
  have a3 : gA s' 3 = setAll (Int32.ofNat g) (ls f) (gA s 3) := by rw [hs']; simp [gA_sA]
  have a4 : gA s' 4 = ((gA s 4).set g h).set f (-1) := by rw [hs']; simp [gA_sA]
  have a5 : gA s' 5 = gA s 5 := F.2.2.1 5 (by simp)
  have a6 : gA s' 6 = gA s 6 := F.2.2.1 6 (by simp)
  refine ⟨s', ?_, F, G.same (F.mono (by simp) (by simp) (by simp) (by simp)) (by rw [F.2.2.1 1 (by simp)]; exact k1) (by rw [F.2.2.1 2 (by simp)]; exact k2) (by rw [a3, setAll_len]; exact l3) (by rw [a4]; simp [l4]) (by rw [a5]; exact l5) (by rw [a6]; exact l6), ?_, ?_⟩
  · unfold k_rmapTransfer
    rw [ix_ofNat _ (by omega), e4, Option.bind_some, show (0 : Int32) = Int32.ofNat 0 from rfl, transfer_loop _ _ (ls f) BIG 0 (-1) h s c l3 (by omega) (by unfold BIG; omega)]
    unfold k_rmapTransfer_47
    rw [gA_sA, if_neg (by decide), ix_ofNat _ (by omega), e4, Option.bind_some, st_ofNat _ _ (by omega) (by omega), Option.bind_some, st_ofNat _ _ (by omega) (by simp; omega), Option.bind_some, sA_same, hs']
  · intro x hx
    rw [a3, setAll_get _ _ _ _ (by omega)]
    dsimp only
    by_cases q : x ∈ ls f
    · rw [if_pos q, if_pos q]; rfl
    · rw [if_neg q, if_neg q]; exact P x hx
  · intro k hk
    rw [a4, a5, a6]
    unfold aupd
    by_cases q : k = f
    · subst q
      rw [if_pos rfl, List.getElem?_set_self (by simp; omega)]
      exact ⟨-1, rfl, rfl⟩
    · rw [if_neg q, List.getElem?_set_ne (by omega)]
      by_cases r : k = g
      · subst r
        rw [if_pos rfl, List.getElem?_set_self (by omega)]
        exact ⟨h, rfl, c⟩
      · rw [if_neg r, List.getElem?_set_ne (by omega)]
        exact M k hk
theorem attach_ok {s : S} {pf : Nat → Option Nat} {ls : Nat → List Nat} {c : Nat → Nat} (G : Geo s) (C : RC s c) (P : RP s pf) (M : RM s ls) (D : Dj ls) {x t : Nat} (hx : x < 64) (ht : t < 8) (hn : ∀ f, f < 8 → x ∉ ls f) : ∃ s', k_attachPage (Int32.ofNat x) (Int32.ofNat t) s = some s' ∧ Fx [] [] [2, 3, 4, 5, 6] [] s s' ∧ Geo s' ∧ RC s' (aupd c t (c t + 1)) ∧ RP s' (aupd pf x (some t)) ∧ RM s' (aupd ls t (x :: ls t)) := by
  obtain ⟨u, eu, F, Gu, Pu, Mu⟩ := link_ok G P M D hx ht hn
  obtain ⟨g0, g1, l0, k1, k2, l3, l4, l5, l6, l7, g6⟩ := id Gu
  have u2 : gA u 2 = gA s 2 := F.2.2.1 2 (by simp)
  have hc : (gA u 2)[t]? = some (Int32.ofNat (c t)) := by rw [u2]; exact C t ht
  have F' : Fx [] [] [2, 3, 4, 5, 6] [] s u := F.mono (by simp) (by simp) (by simp) (by simp)
  obtain ⟨v, hv⟩ : ∃ v, v = sA u 2 ((gA u 2).set t (Int32.ofNat (c t + 1))) := ⟨_, rfl⟩
  have A : ∀ f, f ≠ 2 → gA v f = gA u f := fun f hf => by rw [hv, gA_sA, if_neg hf]
  have A2 : gA v 2 = (gA u 2).set t (Int32.ofNat (c t + 1)) := by rw [hv, gA_sA, if_pos rfl]
  have Fv : Fx [] [] [1, 2, 3, 4, 5, 6] [] u v := by
    have F0 : Fx [] [] [1, 2, 3, 4, 5, 6] [] u u := Fx.refl ..
    rw [hv]; exact F0.sA (by simp)
  refine ⟨v, ?_, by rw [hv]; exact F'.sA (by simp), Gu.same Fv (by rw [A 1 (by decide)]; exact k1) (by rw [A2, List.length_set]; exact k2) (by rw [A 3 (by decide)]; exact l3) (by rw [A 4 (by decide)]; exact l4) (by rw [A 5 (by decide)]; exact l5) (by rw [A 6 (by decide)]; exact l6), ?_, ?_, ?_⟩
  · unfold k_attachPage
    rw [if_neg (ofNat_nonneg (by omega)), if_pos ((lt_lit (by omega)).mpr hx), inr_yes G.1 ht, if_neg (by decide), eu, Option.bind_some, ix_ofNat _ (by omega), hc, Option.bind_some, ofNat_succ, st_ofNat _ _ (by omega) (by omega), Option.bind_some, hv]
  · intro f hf
    rw [A2]
    unfold aupd
    by_cases q : f = t
    · subst q; rw [if_pos rfl, List.getElem?_set_self (by omega)]
    · rw [if_neg q, List.getElem?_set_ne (by omega), u2]; exact C f hf
  · intro z hz; rw [A 3 (by decide)]; exact Pu z hz
  · intro f hf; rw [A 4 (by decide), A 5 (by decide), A 6 (by decide)]; exact Mu f hf
theorem detach_ok {s : S} {pf : Nat → Option Nat} {ls : Nat → List Nat} {c : Nat → Nat} (G : Geo s) (C : RC s c) (P : RP s pf) (M : RM s ls) (D : Dj ls) {x t : Nat} {l1 l2 : List Nat} (hx : x < 64) (ht : t < 8) (hp : pf x = some t) (hl : ls t = l1 ++ x :: l2) (hc0 : 0 < c t) : ∃ s', k_detachPage (Int32.ofNat x) s = some (Int32.ofNat t, s') ∧ Fx [] [] [2, 3, 4, 5, 6] [] s s' ∧ Geo s' ∧ RC s' (aupd c t (c t - 1)) ∧ RP s' (aupd pf x none) ∧ RM s' (aupd ls t (l1 ++ l2)) := by
  obtain ⟨u, eu, F, Gu, Pu, Mu⟩ := unlink_ok G P M D hx ht hp hl
  obtain ⟨g0, g1, l0, k1, k2, l3, l4, l5, l6, l7, g6⟩ := id Gu
  have u2 : gA u 2 = gA s 2 := F.2.2.1 2 (by simp)
  have hc : (gA u 2)[t]? = some (Int32.ofNat (c t)) := by rw [u2]; exact C t ht
  have F' : Fx [] [] [2, 3, 4, 5, 6] [] s u := F.mono (by simp) (by simp) (by simp) (by simp)
  obtain ⟨v, hv⟩ : ∃ v, v = sA u 2 ((gA u 2).set t (Int32.ofNat (c t - 1))) := ⟨_, rfl⟩
  have A : ∀ f, f ≠ 2 → gA v f = gA u f := fun f hf => by rw [hv, gA_sA, if_neg hf]
  have A2 : gA v 2 = (gA u 2).set t (Int32.ofNat (c t - 1)) := by rw [hv, gA_sA, if_pos rfl]
  have Fv : Fx [] [] [1, 2, 3, 4, 5, 6] [] u v := by
    have F0 : Fx [] [] [1, 2, 3, 4, 5, 6] [] u u := Fx.refl ..
    rw [hv]; exact F0.sA (by simp)
  have sub1 : Int32.ofNat (c t) - 1 = Int32.ofNat (c t - 1) := by
    obtain ⟨m, hm⟩ : ∃ m, c t = m + 1 := ⟨c t - 1, by omega⟩
    rw [hm, ← ofNat_succ, Int32.add_sub_cancel]; rfl
  refine ⟨v, ?_, by rw [hv]; exact F'.sA (by simp), Gu.same Fv (by rw [A 1 (by decide)]; exact k1) (by rw [A2, List.length_set]; exact k2) (by rw [A 3 (by decide)]; exact l3) (by rw [A 4 (by decide)]; exact l4) (by rw [A 5 (by decide)]; exact l5) (by rw [A 6 (by decide)]; exact l6), ?_, ?_, ?_⟩
  · unfold k_detachPage
    rw [eu, Option.bind_some]
    dsimp only
    rw [inr_yes g0 ht, if_neg (by decide), ix_ofNat _ (by omega), hc, Option.bind_some, sub1, st_ofNat _ _ (by omega) (by omega), Option.bind_some, hv]
  · intro f hf
    rw [A2]
    unfold aupd
    by_cases q : f = t
    · subst q; rw [if_pos rfl, List.getElem?_set_self (by omega)]
    · rw [if_neg q, List.getElem?_set_ne (by omega), u2]; exact C f hf
  · intro z hz; rw [A 3 (by decide)]; exact Pu z hz
  · intro f hf; rw [A 4 (by decide), A 5 (by decide), A 6 (by decide)]; exact Mu f hf
/-- what freeFrame and reserveFrame write ahead of the state -/
theorem wipe_ok {s : S} {st : Nat → Nat} {val : Nat → Int32} {c : Nat → Nat} {ls : Nat → List Nat} {pf : Nat → Option Nat} (G : Geo s) (R : RS s st) (V : RV s val) (C : RC s c) (P : RP s pf) (M : RM s ls) {f x : Nat} (hf : f < 8) (hx : x ≤ 3) (hl : ls f = []) : ∃ t s', t = sA (sA (sA s 1 ((gA s 1).set f 0)) 2 ((gA s 2).set f 0)) 4 ((gA s 4).set f (-1)) ∧ k_enterState (Int32.ofNat f) (Int32.ofNat x) t = some s' ∧ Fx [6] [2, 3, 4, 5] [0, 1, 2, 4] [] s s' ∧ Geo s' ∧ RS s' (aupd st f x) ∧ RV s' (aupd val f 0) ∧ RC s' (aupd c f 0) ∧ RP s' pf ∧ RM s' ls := by
  obtain ⟨g0, g1, l0, k1, k2, l3, l4, l5, l6, l7, g6⟩ := id G
  obtain ⟨t, ht⟩ : ∃ t, t = sA (sA (sA s 1 ((gA s 1).set f 0)) 2 ((gA s 2).set f 0)) 4 ((gA s 4).set f (-1)) := ⟨_, rfl⟩
  have F0 : Fx [] [] [1, 2, 3, 4, 5, 6] [] s s := Fx.refl ..
  have Ft : Fx [] [] [1, 2, 3, 4, 5, 6] [] s t := by rw [ht]; exact ((F0.sA (by simp)).sA (by simp)).sA (by simp)
  have F1 : Fx [6] [2, 3, 4, 5] [0, 1, 2, 4] [] s t := by
    have F1 : Fx [6] [2, 3, 4, 5] [0, 1, 2, 4] [] s s := Fx.refl ..
    rw [ht]; exact ((F1.sA (by simp)).sA (by simp)).sA (by simp)
  have t1 : gA t 1 = (gA s 1).set f 0 := by rw [ht]; simp [gA_sA]
  have t2 : gA t 2 = (gA s 2).set f 0 := by rw [ht]; simp [gA_sA]
  have t4 : gA t 4 = (gA s 4).set f (-1) := by rw [ht]; simp [gA_sA]
  have t3 : gA t 3 = gA s 3 := by rw [ht]; simp [gA_sA]
  have t5 : gA t 5 = gA s 5 := by rw [ht]; simp [gA_sA]
  have t6 : gA t 6 = gA s 6 := by rw [ht]; simp [gA_sA]
  have t0 : gA t 0 = gA s 0 := by rw [ht]; simp [gA_sA]
  have Gt : Geo t := G.same Ft (by rw [t1, List.length_set]; exact k1) (by rw [t2, List.length_set]; exact k2) (by rw [t3]; exact l3) (by rw [t4, List.length_set]; exact l4) (by rw [t5]; exact l5) (by rw [t6]; exact l6)
  have Rt : RS t st := by
    obtain ⟨r1, r2, r3, r4⟩ := R
    exact ⟨by rw [t0]; exact r1, by rw [Ft.2.1 2 (by simp)]; exact r2, by rw [Ft.2.1 3 (by simp)]; exact r3, by rw [Ft.1 6 (by simp), Ft.2.2.2 7 (by simp), Ft.2.1 2 (by simp)]; exact r4⟩
  obtain ⟨s', e, F, G', R'⟩ := enter_ok Gt Rt hf hx
  have A : ∀ k, k ≠ 0 → gA s' k = gA t k := fun k hk => F.2.2.1 k (by simpa using hk)
  refine ⟨t, s', ht, e, F1.trans (F.mono (by simp) (by simp) (by simp) (by simp)), G', R', ?_, ?_, ?_, ?_⟩
  · intro k hk
    rw [A 1 (by decide), t1]
    unfold aupd
    by_cases q : k = f
    · subst q; rw [if_pos rfl, List.getElem?_set_self (by omega)]
    · rw [if_neg q, List.getElem?_set_ne (by omega)]; exact V k hk
  · intro k hk
    rw [A 2 (by decide), t2]
    unfold aupd
    by_cases q : k = f
    · subst q; rw [if_pos rfl, List.getElem?_set_self (by omega)]; rfl
    · rw [if_neg q, List.getElem?_set_ne (by omega)]; exact C k hk
  · intro z hz; rw [A 3 (by decide), t3]; exact P z hz
  · intro k hk
    rw [A 4 (by decide), A 5 (by decide), A 6 (by decide), t4, t5, t6]
    by_cases q : k = f
    · subst q
      rw [List.getElem?_set_self (by omega), hl]
      exact ⟨-1, rfl, rfl⟩
    · rw [List.getElem?_set_ne (by omega)]; exact M k hk
theorem free_ok {s : S} {st : Nat → Nat} {val : Nat → Int32} {c : Nat → Nat} {ls : Nat → List Nat} {pf : Nat → Option Nat} (G : Geo s) (R : RS s st) (V : RV s val) (C : RC s c) (P : RP s pf) (M : RM s ls) {f : Nat} (hf : f < 8) (hl : ls f = []) : ∃ s', k_freeFrame (Int32.ofNat f) s = some s' ∧ Fx [6] [2, 3, 4, 5] [0, 1, 2, 4] [] s s' ∧ Geo s' ∧ RS s' (aupd st f 0) ∧ RV s' (aupd val f 0) ∧ RC s' (aupd c f 0) ∧ RP s' pf ∧ RM s' ls := by
  obtain ⟨g0, g1, l0, k1, k2, l3, l4, l5, l6, l7, g6⟩ := id G
  obtain ⟨t, s', ht, e, r⟩ := wipe_ok G R V C P M hf (x := 0) (by omega) hl
  refine ⟨s', ?_, r⟩
  unfold k_freeFrame
  rw [inr_yes g0 hf, if_neg (by decide), st_ofNat _ _ (by omega) (by omega), Option.bind_some, st_ofNat _ _ (by omega) (by omega), Option.bind_some, st_ofNat _ _ (by omega) (by omega), Option.bind_some, ← ht, show (0 : Int32) = Int32.ofNat 0 from rfl, e, Option.bind_some]
theorem reserve_ok {s : S} {st : Nat → Nat} {val : Nat → Int32} {c : Nat → Nat} {ls : Nat → List Nat} {pf : Nat → Option Nat} (G : Geo s) (R : RS s st) (V : RV s val) (C : RC s c) (P : RP s pf) (M : RM s ls) {f : Nat} (hf : f < 8) (hl : ls f = []) : ∃ s', k_reserveFrame (Int32.ofNat f) s = some s' ∧ Fx [6] [2, 3, 4, 5] [0, 1, 2, 4] [] s s' ∧ Geo s' ∧ RS s' (aupd st f 3) ∧ RV s' (aupd val f 0) ∧ RC s' (aupd c f 0) ∧ RP s' pf ∧ RM s' ls := by
  obtain ⟨g0, g1, l0, k1, k2, l3, l4, l5, l6, l7, g6⟩ := id G
  obtain ⟨t, s', ht, e, r⟩ := wipe_ok G R V C P M hf (x := 3) (by omega) hl
  refine ⟨s', ?_, r⟩
  unfold k_reserveFrame
  rw [inr_yes g0 hf, if_neg (by decide), st_ofNat _ _ (by omega) (by omega), Option.bind_some, st_ofNat _ _ (by omega) (by omega), Option.bind_some, st_ofNat _ _ (by omega) (by omega), Option.bind_some, ← ht, show (3 : Int32) = Int32.ofNat 3 from rfl, e, Option.bind_some]
abbrev Abs : Type := (Nat → Nat) × (Nat → Int32) × (Nat → Option Nat)
def Con (a : Abs) (c : Nat → Nat) (ls : Nat → List Nat) : Prop := Dj ls ∧ (∀ f, f < 8 → c f = (ls f).length) ∧ (∀ f x, f < 8 → (x ∈ ls f ↔ a.2.2 x = some f)) ∧ (∀ x f, a.2.2 x = some f → f < 8 ∧ x < 64 ∧ x % 16 < 4) ∧ (∀ f, f < 8 → (0 < c f ↔ (a.1 f = 1 ∨ a.1 f = 2))) ∧ (∀ f, f < 8 → (a.1 f = 0 ∨ a.1 f = 3) → a.2.1 f = 0)
/-- the compactor s shows the abstract state a -/
def R (s : S) (a : Abs) : Prop := ∃ c ls, Geo s ∧ RS s a.1 ∧ RV s a.2.1 ∧ RC s c ∧ RP s a.2.2 ∧ RM s ls ∧ Con a c ls
def aSlot (v1 v2 : Int32) : Option Nat := if v1 < 0 then none else if v1 < 4 then (if v2 < 0 then none else if v2 < 4 then some (v1.toNatClampNeg * 16 + v2.toNatClampNeg) else none) else none
theorem page_cases {s : S} (h : gI s 1 = 4) (v1 v2 : Int32) : (aSlot v1 v2 = none ∧ k_pageInRange v1 v2 s = 0) ∨ ∃ x, aSlot v1 v2 = some x ∧ x < 64 ∧ x % 16 < 4 ∧ k_pageInRange v1 v2 s = 1 ∧ k_slotOf v1 v2 = Int32.ofNat x := by
  unfold aSlot k_pageInRange k_slotOf
  rw [h]
  by_cases q1 : v1 < 0
  · left; simp [q1]
  by_cases q2 : v1 < 4
  · by_cases q3 : v2 < 0
    · left; simp [q1, q2, q3]
    by_cases q4 : v2 < 4
    · right
      have c1 := clamp_lt (n := 4) q1 q2 (by omega)
      have c2 := clamp_lt (n := 4) q3 q4 (by omega)
      refine ⟨v1.toNatClampNeg * 16 + v2.toNatClampNeg, by simp [q1, q2, q3, q4], by omega, by omega, by simp [q1, q2, q3, q4], ?_⟩
      obtain ⟨p, hp⟩ : ∃ p, p = v1.toNatClampNeg := ⟨_, rfl⟩
      obtain ⟨r, hr⟩ : ∃ r, r = v2.toNatClampNeg := ⟨_, rfl⟩
      have e1 := (eq_ofNat q1).1
      have e2 := (eq_ofNat q3).1
      rw [← hp] at e1 ⊢
      rw [← hr] at e2 ⊢
      rw [e1, e2, show Int32.ofNat p * 16 = Int32.ofNat (p * 16) from (Int32.ofNat_mul p 16).symm, ofNat_add']
    · left; simp [q1, q2, q3, q4]
  · left; simp [q1, q2]
def lowFree (st : Nat → Nat) : Option Nat := (List.range 8).find? fun f => st f = 0
theorem lowFree_ok {m : Nat} (hm : m < 256) {st : Nat → Nat} (b : ∀ f, f < 8 → m.testBit f = decide (st f = 0)) : (m = 0 ∧ lowFree st = none) ∨ (m ≠ 0 ∧ lowFree st = some (low m) ∧ low m < 8 ∧ st (low m) = 0 ∧ k_lowestBit (Int64.ofNat m) = Int32.ofNat (low m)) := by
  by_cases q : m = 0
  · left
    refine ⟨q, ?_⟩
    unfold lowFree
    rw [List.find?_eq_none]
    intro f hf
    have := b f (List.mem_range.mp hf)
    rw [q, Nat.zero_testBit] at this
    simpa using this
  · right
    obtain ⟨w1, w2, w3, w4⟩ := w_low ⟨m, hm⟩ q
    dsimp only at w1 w2 w3 w4
    have hs : st (low m) = 0 := by
      have := b (low m) w3
      rw [w2] at this; simpa using this.symm
    refine ⟨q, ?_, w3, hs, w1⟩
    unfold lowFree
    rw [List.find?_range_eq_some]
    refine ⟨by simpa using hs, by simpa using w3, ?_⟩
    intro j hj
    have := b j (by omega)
    rw [w4 ⟨j, by omega⟩ hj] at this
    simpa using this.symm
def aMapNew (a : Abs) (v1 v2 v : Int32) : Int32 × Abs := match aSlot v1 v2 with
  | none => (-1, a)
  | some x => match a.2.2 x with
    | some _ => (-2, a)
    | none => match lowFree a.1 with
      | none => (-4, a)
      | some f => (Int32.ofNat f, (aupd a.1 f 1, aupd a.2.1 f v, aupd a.2.2 x (some f)))
theorem con_map {a : Abs} {c : Nat → Nat} {ls : Nat → List Nat} (K : Con a c ls) {f x : Nat} (hf : f < 8) (hx : x < 64) (hx4 : x % 16 < 4) (hs : a.1 f = 0) (hp : a.2.2 x = none) (v : Int32) : Con (aupd a.1 f 1, aupd a.2.1 f v, aupd a.2.2 x (some f)) (aupd c f (c f + 1)) (aupd ls f (x :: ls f)) := by
  obtain ⟨D, k1, k2, k3, k4, k5⟩ := K
  have nx : ∀ g, g < 8 → x ∉ ls g := fun g hg q => by rw [(k2 g x hg).mp q] at hp; cases hp
  refine ⟨⟨fun g hg => ?_, fun g g' y hg hg' q q' => ?_⟩, fun g hg => ?_, fun g y hg => ?_, fun y g q => ?_, fun g hg => ?_, fun g hg q => ?_⟩
  · unfold aupd
    by_cases e : g = f
    · rw [if_pos e]; exact List.nodup_cons.mpr ⟨nx f hf, D.1 f hf⟩
    · rw [if_neg e]; exact D.1 g hg
  · unfold aupd at q q'
    by_cases e : g = f
    · by_cases e' : g' = f
      · rw [e, e']
      · rw [if_pos e] at q; rw [if_neg e'] at q'
        rcases List.mem_cons.mp q with q | q
        · rw [q] at q'; exact absurd q' (nx g' hg')
        · rw [e]; exact D.2 f g' y hf hg' q q'
    · by_cases e' : g' = f
      · rw [if_neg e] at q; rw [if_pos e'] at q'
        rcases List.mem_cons.mp q' with q' | q'
        · rw [q'] at q; exact absurd q (nx g hg)
        · rw [e']; exact D.2 g f y hg hf q q'
      · rw [if_neg e] at q; rw [if_neg e'] at q'
        exact D.2 g g' y hg hg' q q'
  · unfold aupd
    by_cases e : g = f
    · rw [if_pos e, if_pos e, k1 f hf]; rfl
    · rw [if_neg e, if_neg e]; exact k1 g hg
  · dsimp only
    unfold aupd
    by_cases e : g = f
    · rw [if_pos e, List.mem_cons]
      by_cases r : y = x
      · simp [r, e]
      · rw [if_neg r, e]
        constructor
        · rintro (q | q)
          · exact absurd q r
          · exact (k2 f y hf).mp q
        · intro q; exact Or.inr ((k2 f y hf).mpr q)
    · rw [if_neg e]
      by_cases r : y = x
      · rw [if_pos r, r]
        constructor
        · intro q; exact absurd q (nx g hg)
        · intro q; exact absurd (Option.some.inj q).symm e
      · rw [if_neg r]; exact k2 g y hg
  · dsimp only at q
    unfold aupd at q
    by_cases r : y = x
    · rw [if_pos r] at q; cases q; rw [r]; exact ⟨hf, hx, hx4⟩
    · rw [if_neg r] at q; exact k3 y g q
  · dsimp only
    unfold aupd
    by_cases e : g = f
    · rw [if_pos e, if_pos e]; simp
    · rw [if_neg e, if_neg e]; exact k4 g hg
  · dsimp only at q ⊢
    unfold aupd at q ⊢
    by_cases e : g = f
    · rw [if_pos e] at q; omega
    · rw [if_neg e] at q ⊢; exact k5 g hg q
theorem upd_self {A : Type} (g : Nat → A) (f : Nat) : aupd g f (g f) = g := by
  funext x; unfold aupd; by_cases q : x = f <;> simp [q]
theorem mapNew_ok {s : S} {a : Abs} (h : R s a) (v1 v2 v : Int32) : ∃ s', k_mapNew v1 v2 v s = some ((aMapNew a v1 v2 v).1, s') ∧ R s' (aMapNew a v1 v2 v).2 := by
  obtain ⟨c, ls, G, RS', V, C, P, M, K⟩ := id h
  obtain ⟨g0, g1, l0, k1, k2, l3, l4, l5, l6, l7, g6⟩ := id G
  obtain ⟨D, q1, q2, q3, q4, q5⟩ := id K
  obtain ⟨r1, ⟨m2, h2, e2, b2⟩, _, _⟩ := id RS'
  rcases page_cases g1 v1 v2 with ⟨n1, n2⟩ | ⟨x, n1, hx, hx4, n2, n3⟩
  · refine ⟨s, ?_, ?_⟩
    · unfold k_mapNew k_checkTarget aMapNew
      rw [n1, n2, if_pos rfl, Option.bind_some, if_neg (by decide)]
    · unfold aMapNew; rw [n1]; exact h
  have ct : k_checkTarget v1 v2 s = some (if pcode (a.2.2 x) < 0 then 0 else -2) := by
    unfold k_checkTarget
    rw [n2, if_neg (by decide), n3, ix_ofNat _ (by omega), P x hx, Option.bind_some]
    split <;> rfl
  cases hp : a.2.2 x with
  | some f =>
    have hf := (q3 x f hp).1
    have hneg : ¬ pcode (some f) < 0 := ofNat_nonneg (by omega)
    rw [hp, if_neg hneg] at ct
    refine ⟨s, ?_, ?_⟩
    · unfold k_mapNew aMapNew
      rw [ct, n1, Option.bind_some, if_neg (by decide)]
      dsimp only
      rw [hp]
    · unfold aMapNew; rw [n1]; dsimp only; rw [hp]; exact h
  | none =>
    rw [hp, if_pos (show pcode none < 0 by decide)] at ct
    rcases lowFree_ok h2 b2 with ⟨z1, z2⟩ | ⟨z1, z2, z3, z4, z5⟩
    · refine ⟨s, ?_, ?_⟩
      · unfold k_mapNew aMapNew
        rw [ct, n1, Option.bind_some, if_pos rfl, e2, if_pos ((w_zero ⟨m2, h2⟩).mpr z1)]
        dsimp only
        rw [hp]
        dsimp only
        rw [z2]
      · unfold aMapNew; rw [n1]; dsimp only; rw [hp]; dsimp only; rw [z2]; exact h
    · obtain ⟨f, hf⟩ : ∃ f, f = low m2 := ⟨_, rfl⟩
      rw [← hf] at z2 z3 z4 z5
      have hc0 : c f = 0 := by
        rcases Nat.eq_zero_or_pos (c f) with q | q
        · exact q
        · have := (q4 f z3).mp q; omega
      obtain ⟨u, eu, Fu, Gu, Ru⟩ := enter_ok G RS' z3 (x := 1) (by omega)
      have uA : ∀ k, k ≠ 0 → gA u k = gA s k := fun k hk => Fu.2.2.1 k (by simpa using hk)
      obtain ⟨w, hw⟩ : ∃ w, w = sA (sA u 1 ((gA s 1).set f v)) 2 ((gA s 2).set f 0) := ⟨_, rfl⟩
      have wA : ∀ k, k ≠ 1 → k ≠ 2 → gA w k = gA u k := fun k a b => by rw [hw, gA_sA, if_neg b, gA_sA, if_neg a]
      have w1 : gA w 1 = (gA s 1).set f v := by rw [hw]; simp [gA_sA]
      have w2 : gA w 2 = (gA s 2).set f 0 := by rw [hw]; simp [gA_sA]
      have Fw : Fx [] [] [1, 2, 3, 4, 5, 6] [] u w := by
        have F0 : Fx [] [] [1, 2, 3, 4, 5, 6] [] u u := Fx.refl ..
        rw [hw]; exact (F0.sA (by simp)).sA (by simp)
      have Gw : Geo w := Gu.same Fw (by rw [w1, List.length_set]; exact k1) (by rw [w2, List.length_set]; exact k2) (by rw [wA 3 (by decide) (by decide), uA 3 (by decide)]; exact l3) (by rw [wA 4 (by decide) (by decide), uA 4 (by decide)]; exact l4) (by rw [wA 5 (by decide) (by decide), uA 5 (by decide)]; exact l5) (by rw [wA 6 (by decide) (by decide), uA 6 (by decide)]; exact l6)
      have Cw : RC w c := fun g hg => by
        rw [w2]
        by_cases q : g = f
        · subst q; rw [List.getElem?_set_self (by omega), hc0]; rfl
        · rw [List.getElem?_set_ne (by omega)]; exact C g hg
      have Pw : RP w a.2.2 := fun z hz => by rw [wA 3 (by decide) (by decide), uA 3 (by decide)]; exact P z hz
      have Mw : RM w ls := fun g hg => by rw [wA 4 (by decide) (by decide), wA 5 (by decide) (by decide), wA 6 (by decide) (by decide), uA 4 (by decide), uA 5 (by decide), uA 6 (by decide)]; exact M g hg
      obtain ⟨s', es, Fs, Gs, Cs, Ps, Ms⟩ := attach_ok Gw Cw Pw Mw D hx z3 (fun g hg q => by rw [(q2 g x hg).mp q] at hp; cases hp)
      have am : aMapNew a v1 v2 v = (Int32.ofNat f, (aupd a.1 f 1, aupd a.2.1 f v, aupd a.2.2 x (some f))) := by
        unfold aMapNew; rw [n1]; dsimp only; rw [hp]; dsimp only; rw [z2]
      rw [am]
      refine ⟨s', ?_, aupd c f (c f + 1), aupd ls f (x :: ls f), Gs, ?_, ?_, Cs, Ps, Ms, con_map K z3 hx hx4 z4 hp v⟩
      · unfold k_mapNew
        rw [ct, Option.bind_some, if_pos rfl, e2, if_neg (fun q => z1 ((w_zero ⟨m2, h2⟩).mp q)), z5, inr_yes g0 z3, if_neg (by decide), show (1 : Int32) = Int32.ofNat 1 from rfl, eu, Option.bind_some, uA 1 (by decide), uA 2 (by decide), st_ofNat _ _ (by omega) (by omega), Option.bind_some, st_ofNat _ _ (by omega) (by omega), Option.bind_some, n3, ← hw, es, Option.bind_some]
      · obtain ⟨t1, t2, t3, t4⟩ := Ru
        have F2 : Fx [] [] [1, 2, 3, 4, 5, 6] [] u s' := Fw.trans (Fs.mono (by simp) (by simp) (by simp) (by simp))
        exact ⟨by rw [F2.2.2.1 0 (by simp)]; exact t1, by rw [F2.2.1 2 (by simp)]; exact t2, by rw [F2.2.1 3 (by simp)]; exact t3, by rw [F2.1 6 (by simp), F2.2.2.2 7 (by simp), F2.2.1 2 (by simp)]; exact t4⟩
      · intro g hg
        rw [Fs.2.2.1 1 (by simp), w1]
        dsimp only
        unfold aupd
        by_cases q : g = f
        · subst q; rw [if_pos rfl, List.getElem?_set_self (by omega)]
        · rw [if_neg q, List.getElem?_set_ne (by omega)]; exact V g hg
def aShare (a : Abs) (v1 v2 w1 w2 : Int32) : Int32 × Abs := match aSlot v1 v2 with
  | none => (-1, a)
  | some x => match aSlot w1 w2 with
    | none => (-1, a)
    | some y => match a.2.2 x with
      | some _ => (-2, a)
      | none => match a.2.2 y with
        | none => (-3, a)
        | some f => (Int32.ofNat f, (a.1, a.2.1, aupd a.2.2 x (some f)))
theorem con_share {a : Abs} {c : Nat → Nat} {ls : Nat → List Nat} (K : Con a c ls) {f x y : Nat} (hx : x < 64) (hx4 : x % 16 < 4) (hy : a.2.2 y = some f) (hp : a.2.2 x = none) : Con (a.1, a.2.1, aupd a.2.2 x (some f)) (aupd c f (c f + 1)) (aupd ls f (x :: ls f)) := by
  obtain ⟨D, k1, k2, k3, k4, k5⟩ := id K
  have hf := (k3 y f hy).1
  have hc : 0 < c f := by
    rw [k1 f hf]; exact List.length_pos_of_mem ((k2 f y hf).mpr hy)
  have nx : ∀ g, g < 8 → x ∉ ls g := fun g hg q => by rw [(k2 g x hg).mp q] at hp; cases hp
  refine ⟨⟨fun g hg => ?_, fun g g' z hg hg' q q' => ?_⟩, fun g hg => ?_, fun g z hg => ?_, fun z g q => ?_, fun g hg => ?_, k5⟩
  · unfold aupd
    by_cases e : g = f
    · rw [if_pos e]; exact List.nodup_cons.mpr ⟨nx f hf, D.1 f hf⟩
    · rw [if_neg e]; exact D.1 g hg
  · unfold aupd at q q'
    by_cases e : g = f
    · by_cases e' : g' = f
      · rw [e, e']
      · rw [if_pos e] at q; rw [if_neg e'] at q'
        rcases List.mem_cons.mp q with q | q
        · rw [q] at q'; exact absurd q' (nx g' hg')
        · rw [e]; exact D.2 f g' z hf hg' q q'
    · by_cases e' : g' = f
      · rw [if_neg e] at q; rw [if_pos e'] at q'
        rcases List.mem_cons.mp q' with q' | q'
        · rw [q'] at q; exact absurd q (nx g hg)
        · rw [e']; exact D.2 g f z hg hf q q'
      · rw [if_neg e] at q; rw [if_neg e'] at q'
        exact D.2 g g' z hg hg' q q'
  · unfold aupd
    by_cases e : g = f
    · rw [if_pos e, if_pos e, k1 f hf]; rfl
    · rw [if_neg e, if_neg e]; exact k1 g hg
  · dsimp only
    unfold aupd
    by_cases e : g = f
    · rw [if_pos e, List.mem_cons]
      by_cases r : z = x
      · simp [r, e]
      · rw [if_neg r, e]
        constructor
        · rintro (q | q)
          · exact absurd q r
          · exact (k2 f z hf).mp q
        · intro q; exact Or.inr ((k2 f z hf).mpr q)
    · rw [if_neg e]
      by_cases r : z = x
      · rw [if_pos r, r]
        constructor
        · intro q; exact absurd q (nx g hg)
        · intro q; exact absurd (Option.some.inj q).symm e
      · rw [if_neg r]; exact k2 g z hg
  · dsimp only at q
    unfold aupd at q
    by_cases r : z = x
    · rw [if_pos r] at q; cases q; rw [r]; exact ⟨hf, hx, hx4⟩
    · rw [if_neg r] at q; exact k3 z g q
  · dsimp only
    unfold aupd
    by_cases e : g = f
    · rw [if_pos e, e]
      exact ⟨fun _ => (k4 f hf).mp hc, fun _ => by omega⟩
    · rw [if_neg e]; exact k4 g hg
theorem share_ok {s : S} {a : Abs} (h : R s a) (v1 v2 w1 w2 : Int32) : ∃ s', k_share v1 v2 w1 w2 s = some ((aShare a v1 v2 w1 w2).1, s') ∧ R s' (aShare a v1 v2 w1 w2).2 := by
  obtain ⟨c, ls, G, RS', V, C, P, M, K⟩ := id h
  obtain ⟨g0, g1, l0, k1, k2, l3, l4, l5, l6, l7, g6⟩ := id G
  obtain ⟨D, q1, q2, q3, q4, q5⟩ := id K
  rcases page_cases g1 v1 v2 with ⟨n1, n2⟩ | ⟨x, n1, hx, hx4, n2, n3⟩
  · refine ⟨s, ?_, ?_⟩
    · unfold k_share aShare; rw [n1, n2, if_pos rfl]
    · unfold aShare; rw [n1]; exact h
  rcases page_cases g1 w1 w2 with ⟨m1, m2⟩ | ⟨y, m1, hy, hy4, m2, m3⟩
  · refine ⟨s, ?_, ?_⟩
    · unfold k_share aShare; rw [n1, m1, n2, m2, if_neg (by decide), if_pos rfl]
    · unfold aShare; rw [n1, m1]; exact h
  have st0 : k_share v1 v2 w1 w2 s = (if pcode (a.2.2 x) < 0 then (if k_frameInRange (pcode (a.2.2 y)) s = 0 then some (-3, s) else (k_attachPage (Int32.ofNat x) (pcode (a.2.2 y)) s).bind fun r79 => some (pcode (a.2.2 y), r79)) else some (-2, s)) := by
    unfold k_share
    rw [n2, m2, if_neg (by decide), if_neg (by decide), n3, m3, ix_ofNat _ (by omega), P x hx, Option.bind_some, ix_ofNat _ (by omega), P y hy, Option.bind_some]
  cases hp : a.2.2 x with
  | some f =>
    have hf := (q3 x f hp).1
    have hneg : ¬ pcode (some f) < 0 := ofNat_nonneg (by omega)
    have am : aShare a v1 v2 w1 w2 = (-2, a) := by unfold aShare; rw [n1, m1]; dsimp only; rw [hp]
    rw [am]
    exact ⟨s, by rw [st0, hp, if_neg hneg], h⟩
  | none =>
    rw [hp, if_pos (show pcode none < 0 by decide)] at st0
    cases hq : a.2.2 y with
    | none =>
      have am : aShare a v1 v2 w1 w2 = (-3, a) := by unfold aShare; rw [n1, m1]; dsimp only; rw [hp]; dsimp only; rw [hq]
      rw [am]
      refine ⟨s, ?_, h⟩
      rw [st0, hq, if_pos]
      unfold k_frameInRange
      rw [if_pos (show pcode none < 0 by decide)]
    | some f =>
      have hf := (q3 y f hq).1
      have am : aShare a v1 v2 w1 w2 = (Int32.ofNat f, (a.1, a.2.1, aupd a.2.2 x (some f))) := by unfold aShare; rw [n1, m1]; dsimp only; rw [hp]; dsimp only; rw [hq]
      rw [am]
      obtain ⟨s', es, Fs, Gs, Cs, Ps, Ms⟩ := attach_ok G C P M D hx hf (fun g hg q => by rw [(q2 g x hg).mp q] at hp; cases hp)
      refine ⟨s', ?_, aupd c f (c f + 1), aupd ls f (x :: ls f), Gs, ?_, ?_, Cs, Ps, Ms, con_share K hx hx4 hq hp⟩
      · rw [st0, hq]
        show (if k_frameInRange (Int32.ofNat f) s = 0 then _ else (k_attachPage (Int32.ofNat x) (Int32.ofNat f) s).bind fun r79 => some (Int32.ofNat f, r79)) = _
        rw [inr_yes g0 hf, if_neg (by decide), es, Option.bind_some]
      · obtain ⟨t1, t2, t3, t4⟩ := RS'
        exact ⟨by rw [Fs.2.2.1 0 (by simp)]; exact t1, by rw [Fs.2.1 2 (by simp)]; exact t2, by rw [Fs.2.1 3 (by simp)]; exact t3, by rw [Fs.1 6 (by simp), Fs.2.2.2 7 (by simp), Fs.2.1 2 (by simp)]; exact t4⟩
      · intro g hg; rw [Fs.2.2.1 1 (by simp)]; exact V g hg
theorem read_frame {s : S} {a : Abs} (h : R s a) (v1 v2 : Int32) : k_mappedFrame v1 v2 s = some (match aSlot v1 v2 with | none => -1 | some x => pcode (a.2.2 x)) := by
  obtain ⟨c, ls, G, RS', V, C, P, M, K⟩ := id h
  obtain ⟨g0, g1, l0, k1, k2, l3, l4, l5, l6, l7, g6⟩ := id G
  obtain ⟨D, q1, q2, q3, q4, q5⟩ := id K
  unfold k_mappedFrame
  rcases page_cases g1 v1 v2 with ⟨n1, n2⟩ | ⟨x, n1, hx, hx4, n2, n3⟩
  · rw [n1, n2, if_pos rfl]
  · rw [n1, n2, if_neg (by decide), n3, ix_ofNat _ (by omega), P x hx, Option.bind_some]
    dsimp only
    cases hp : a.2.2 x with
    | none =>
      have : k_frameInRange (pcode none) s = 0 := by unfold k_frameInRange; rw [if_pos (show pcode none < 0 by decide)]
      rw [if_pos this]; rfl
    | some f =>
      have hf := (q3 x f hp).1
      have : k_frameInRange (pcode (some f)) s = 1 := inr_yes g0 hf
      rw [this, if_neg (by decide)]
def others (pf : Nat → Option Nat) (x f : Nat) : Bool := (List.range 64).any fun y => decide (y ≠ x) && decide (pf y = some f)
def aUnmap (a : Abs) (v1 v2 : Int32) : Int32 × Abs := match aSlot v1 v2 with
  | none => (-1, a)
  | some x => match a.2.2 x with
    | none => (-3, a)
    | some f => (Int32.ofNat f, if others a.2.2 x f then (a.1, a.2.1, aupd a.2.2 x none) else (aupd a.1 f 0, aupd a.2.1 f 0, aupd a.2.2 x none))
theorem con_rm {a : Abs} {c : Nat → Nat} {ls : Nat → List Nat} (K : Con a c ls) {f x : Nat} {l1 l2 : List Nat} (hp : a.2.2 x = some f) (hl : ls f = l1 ++ x :: l2) : Dj (aupd ls f (l1 ++ l2)) ∧ (∀ g, g < 8 → (aupd c f (c f - 1)) g = ((aupd ls f (l1 ++ l2)) g).length) ∧ (∀ g z, g < 8 → (z ∈ (aupd ls f (l1 ++ l2)) g ↔ (aupd a.2.2 x none) z = some g)) ∧ (∀ z g, (aupd a.2.2 x none) z = some g → g < 8 ∧ z < 64 ∧ z % 16 < 4) := by
  obtain ⟨D, k1, k2, k3, k4, k5⟩ := id K
  have hf := (k3 x f hp).1
  have nd := D.1 f hf
  rw [hl] at nd
  have nx : x ∉ l1 ++ l2 := by
    have := (List.Perm.nodup_iff List.perm_middle).mp nd
    exact (List.nodup_cons.mp this).1
  have nd2 : (l1 ++ l2).Nodup := (List.nodup_cons.mp ((List.Perm.nodup_iff List.perm_middle).mp nd)).2
  have sub : ∀ z, z ∈ l1 ++ l2 ↔ (z ∈ ls f ∧ z ≠ x) := fun z => by
    rw [hl]
    constructor
    · intro q
      refine ⟨?_, fun e => nx (e ▸ q)⟩
      simp only [List.mem_append, List.mem_cons] at q ⊢
      rcases q with q | q
      · exact Or.inl q
      · exact Or.inr (Or.inr q)
    · rintro ⟨q, e⟩
      simp only [List.mem_append, List.mem_cons] at q ⊢
      rcases q with q | q | q
      · exact Or.inl q
      · exact absurd q e
      · exact Or.inr q
  refine ⟨⟨fun g hg => ?_, fun g g' z hg hg' q q' => ?_⟩, fun g hg => ?_, fun g z hg => ?_, fun z g q => ?_⟩
  · unfold aupd
    by_cases e : g = f
    · rw [if_pos e]; exact nd2
    · rw [if_neg e]; exact D.1 g hg
  · have m1 : z ∈ ls g := by
      unfold aupd at q
      by_cases e : g = f
      · rw [if_pos e] at q; rw [e]; exact ((sub z).mp q).1
      · rw [if_neg e] at q; exact q
    have m2 : z ∈ ls g' := by
      unfold aupd at q'
      by_cases e : g' = f
      · rw [if_pos e] at q'; rw [e]; exact ((sub z).mp q').1
      · rw [if_neg e] at q'; exact q'
    exact D.2 g g' z hg hg' m1 m2
  · unfold aupd
    by_cases e : g = f
    · rw [if_pos e, if_pos e, k1 f hf, hl]; simp
    · rw [if_neg e, if_neg e]; exact k1 g hg
  · unfold aupd
    by_cases e : g = f
    · rw [if_pos e, sub z]
      by_cases r : z = x
      · rw [if_pos r]
        exact ⟨fun q => absurd r q.2, fun q => nomatch q⟩
      · rw [if_neg r, e]
        exact ⟨fun q => (k2 f z hf).mp q.1, fun q => ⟨(k2 f z hf).mpr q, r⟩⟩
    · rw [if_neg e]
      by_cases r : z = x
      · rw [if_pos r, r]
        refine ⟨fun q => ?_, fun q => nomatch q⟩
        have := (k2 g x hg).mp q
        rw [hp] at this
        exact absurd (Option.some.inj this).symm e
      · rw [if_neg r]; exact k2 g z hg
  · unfold aupd at q
    by_cases r : z = x
    · rw [if_pos r] at q; cases q
    · rw [if_neg r] at q; exact k3 z g q
theorem others_iff {a : Abs} {c : Nat → Nat} {ls : Nat → List Nat} (K : Con a c ls) {f x : Nat} {l1 l2 : List Nat} (hp : a.2.2 x = some f) (hl : ls f = l1 ++ x :: l2) : others a.2.2 x f = true ↔ l1 ++ l2 ≠ [] := by
  obtain ⟨k0, k1, k2, k3⟩ := con_rm K hp hl
  obtain ⟨D, q1, q2, q3, q4, q5⟩ := id K
  have hf := (q3 x f hp).1
  have u : (aupd ls f (l1 ++ l2)) f = l1 ++ l2 := by unfold aupd; rw [if_pos rfl]
  unfold others
  rw [List.any_eq_true]
  constructor
  · rintro ⟨y, hy, q⟩ e
    simp only [Bool.and_eq_true, decide_eq_true_eq] at q
    have := (k2 f y hf).mpr (by unfold aupd; rw [if_neg q.1]; exact q.2)
    rw [u, e] at this
    cases this
  · intro e
    obtain ⟨y, r, er⟩ := List.exists_cons_of_ne_nil e
    have hy : y ∈ (aupd ls f (l1 ++ l2)) f := by rw [u, er]; exact List.mem_cons_self
    have h1 := (k2 f y hf).mp hy
    unfold aupd at h1
    by_cases w : y = x
    · rw [if_pos w] at h1; cases h1
    · rw [if_neg w] at h1
      exact ⟨y, List.mem_range.mpr (q3 y f h1).2.1, by simp [w, h1]⟩
theorem unmap_ok {s : S} {a : Abs} (h : R s a) (v1 v2 : Int32) : ∃ s', k_unmap v1 v2 s = some ((aUnmap a v1 v2).1, s') ∧ R s' (aUnmap a v1 v2).2 := by
  obtain ⟨c, ls, G, RS', V, C, P, M, K⟩ := id h
  obtain ⟨g0, g1, l0, k1, k2, l3, l4, l5, l6, l7, g6⟩ := id G
  obtain ⟨D, q1, q2, q3, q4, q5⟩ := id K
  rcases page_cases g1 v1 v2 with ⟨n1, n2⟩ | ⟨x, n1, hx, hx4, n2, n3⟩
  · refine ⟨s, ?_, ?_⟩
    · unfold k_unmap aUnmap; rw [n1, n2, if_pos rfl]
    · unfold aUnmap; rw [n1]; exact h
  cases hp : a.2.2 x with
  | none =>
    have am : aUnmap a v1 v2 = (-3, a) := by unfold aUnmap; rw [n1]; dsimp only; rw [hp]
    rw [am]
    refine ⟨s, ?_, h⟩
    unfold k_unmap
    rw [n2, if_neg (by decide), n3, ix_ofNat _ (by omega), P x hx, Option.bind_some, hp, if_pos (show pcode none < 0 by decide)]
  | some f =>
    have hf := (q3 x f hp).1
    have hneg : ¬ pcode (some f) < 0 := ofNat_nonneg (by omega)
    obtain ⟨l1, l2, hl⟩ := List.append_of_mem ((q2 f x hf).mpr hp)
    have lc : c f = (l1 ++ l2).length + 1 := by rw [q1 f hf, hl]; simp; omega
    obtain ⟨z1, z2, z3, z4⟩ := con_rm K hp hl
    have oi := others_iff K hp hl
    obtain ⟨u, eu, Fu, Gu, Cu, Pu, Mu⟩ := detach_ok G C P M D hx hf hp hl (by omega)
    have cl : c f ≤ 64 := by rw [q1 f hf]; exact nodup_len (D.1 f hf) (fun y hy => (q3 y f ((q2 f y hf).mp hy)).2.1)
    have Ru : RS u a.1 := by
      obtain ⟨t1, t2, t3, t4⟩ := RS'
      exact ⟨by rw [Fu.2.2.1 0 (by simp)]; exact t1, by rw [Fu.2.1 2 (by simp)]; exact t2, by rw [Fu.2.1 3 (by simp)]; exact t3, by rw [Fu.1 6 (by simp), Fu.2.2.2 7 (by simp), Fu.2.1 2 (by simp)]; exact t4⟩
    have Vu : RV u a.2.1 := fun g hg => by rw [Fu.2.2.1 1 (by simp)]; exact V g hg
    have k0 : k_unmap v1 v2 s = (if 0 < Int32.ofNat (c f - 1) then some (Int32.ofNat f, u) else (k_freeFrame (Int32.ofNat f) u).bind fun r62 => some (Int32.ofNat f, r62)) := by
      unfold k_unmap
      rw [n2, if_neg (by decide), n3, ix_ofNat _ (by omega), P x hx, Option.bind_some, hp, if_neg hneg, eu, Option.bind_some]
      dsimp only
      rw [inr_yes Gu.1 hf, if_neg (by decide), ix_ofNat _ (by omega), Cu f hf, Option.bind_some]
      unfold aupd
      rw [if_pos rfl]
    by_cases e : l1 ++ l2 = []
    · have ob : others a.2.2 x f = false := by
        cases ho : others a.2.2 x f with
        | false => rfl
        | true => exact absurd e (oi.mp ho)
      have am : aUnmap a v1 v2 = (Int32.ofNat f, (aupd a.1 f 0, aupd a.2.1 f 0, aupd a.2.2 x none)) := by unfold aUnmap; rw [n1]; dsimp only; rw [hp]; dsimp only; rw [ob]; rfl
      rw [am]
      have c1 : c f - 1 = 0 := by rw [lc, e]; rfl
      obtain ⟨s', es, Fs, Gs, Rs, Vs, Cs, Ps, Ms⟩ := free_ok Gu Ru Vu Cu Pu Mu hf (by unfold aupd; rw [if_pos rfl]; exact e)
      refine ⟨s', ?_, _, _, Gs, Rs, Vs, Cs, Ps, Ms, z1, ?_, z3, z4, ?_, ?_⟩
      · rw [k0, c1, if_neg (by decide), es, Option.bind_some]
      · intro g hg
        have := z2 g hg
        unfold aupd at this ⊢
        by_cases w : g = f
        · rw [if_pos w]; rw [if_pos w, if_pos w, e] at this; rw [if_pos w, e]; rfl
        · rw [if_neg w, if_neg w]; rw [if_neg w] at this; exact this
      · intro g hg
        dsimp only
        unfold aupd
        by_cases w : g = f
        · rw [if_pos w, if_pos w]; simp
        · rw [if_neg w, if_neg w, if_neg w]; exact q4 g hg
      · intro g hg q
        dsimp only at q ⊢
        unfold aupd at q ⊢
        by_cases w : g = f
        · rw [if_pos w]
        · rw [if_neg w] at q ⊢; exact q5 g hg q
    · have ob : others a.2.2 x f = true := oi.mpr e
      have am : aUnmap a v1 v2 = (Int32.ofNat f, (a.1, a.2.1, aupd a.2.2 x none)) := by unfold aUnmap; rw [n1]; dsimp only; rw [hp]; dsimp only; rw [ob]; rfl
      rw [am]
      have c1 : 0 < c f - 1 := by
        rw [lc]
        have := List.length_pos_iff.mpr e
        omega
      refine ⟨u, ?_, _, _, Gu, Ru, Vu, Cu, Pu, Mu, z1, z2, z3, z4, ?_, q5⟩
      · rw [k0, if_pos]
        rw [show (0 : Int32) = Int32.ofNat 0 from rfl, ofNat_lt (by omega) (by omega)]; exact c1
      · intro g hg
        dsimp only
        unfold aupd
        by_cases w : g = f
        · rw [if_pos w, w]
          exact ⟨fun _ => (q4 f hf).mp (by omega), fun _ => c1⟩
        · rw [if_neg w]; exact q4 g hg
def aFr (a : Abs) (v1 v2 : Int32) : Option Nat := match aSlot v1 v2 with
  | none => none
  | some x => a.2.2 x
theorem read_frame' {s : S} {a : Abs} (h : R s a) (v1 v2 : Int32) : k_mappedFrame v1 v2 s = some (pcode (aFr a v1 v2)) := by
  rw [read_frame h]; unfold aFr; cases aSlot v1 v2 <;> rfl
theorem aFr_lt {s : S} {a : Abs} (h : R s a) {v1 v2 : Int32} {f : Nat} (e : aFr a v1 v2 = some f) : f < 8 := by
  obtain ⟨c, ls, G, RS', V, C, P, M, D, q1, q2, q3, q4, q5⟩ := h
  unfold aFr at e
  cases hs : aSlot v1 v2 with
  | none => rw [hs] at e; cases e
  | some x => rw [hs] at e; exact (q3 x f e).1
theorem aFr_used {s : S} {a : Abs} (h : R s a) {v1 v2 : Int32} {f : Nat} (e : aFr a v1 v2 = some f) : a.1 f = 1 ∨ a.1 f = 2 := by
  have hf := aFr_lt h e
  obtain ⟨c, ls, G, RS', V, C, P, M, D, q1, q2, q3, q4, q5⟩ := h
  unfold aFr at e
  cases hs : aSlot v1 v2 with
  | none => rw [hs] at e; cases e
  | some x =>
    rw [hs] at e
    refine (q4 f hf).mp ?_
    rw [q1 f hf]
    exact List.length_pos_of_mem ((q2 f x hf).mpr e)
theorem frameOf_ok {s : S} {a : Abs} (h : R s a) (v1 v2 : Int32) : k_frameOf v1 v2 s = some (pcode (aFr a v1 v2)) := by
  unfold k_frameOf
  rw [read_frame' h, Option.bind_some]
  cases hq : aFr a v1 v2 with
  | none => rfl
  | some f => rw [if_neg (show ¬ pcode (some f) < 0 from ofNat_nonneg (by have := aFr_lt h hq; omega))]
def aRead (a : Abs) (v1 v2 : Int32) : Int32 := match aFr a v1 v2 with
  | none => 0
  | some f => a.2.1 f
theorem read_ok {s : S} {a : Abs} (h : R s a) (v1 v2 : Int32) : k_read v1 v2 s = some (aRead a v1 v2) := by
  unfold k_read aRead
  rw [read_frame' h, Option.bind_some]
  cases hq : aFr a v1 v2 with
  | none => rfl
  | some f =>
    have hf := aFr_lt h hq
    obtain ⟨c, ls, G, RS', V, C, P, M, K⟩ := h
    rw [if_neg (show ¬ pcode (some f) < 0 from ofNat_nonneg (by omega))]
    show (ix (gA s 1) (Int32.ofNat f)).bind _ = _
    rw [ix_ofNat _ (by omega), V f hf, Option.bind_some]
def aWrite (a : Abs) (v1 v2 v : Int32) : Int32 × Abs := match aFr a v1 v2 with
  | none => (0, a)
  | some f => (1, (a.1, aupd a.2.1 f v, a.2.2))
theorem write_ok {s : S} {a : Abs} (h : R s a) (v1 v2 v : Int32) : ∃ s', k_write v1 v2 v s = some ((aWrite a v1 v2 v).1, s') ∧ R s' (aWrite a v1 v2 v).2 := by
  unfold k_write aWrite
  rw [read_frame' h, Option.bind_some]
  cases hq : aFr a v1 v2 with
  | none => exact ⟨s, rfl, h⟩
  | some f =>
    have hf := aFr_lt h hq
    have hu := aFr_used h hq
    obtain ⟨c, ls, G, RS', V, C, P, M, K⟩ := h
    obtain ⟨g0, g1, l0, k1, k2, l3, l4, l5, l6, l7, g6⟩ := id G
    obtain ⟨D, q1, q2, q3, q4, q5⟩ := id K
    rw [if_neg (show ¬ pcode (some f) < 0 from ofNat_nonneg (by omega))]
    have F : Fx [] [] [1, 2, 3, 4, 5, 6] [] s (sA s 1 ((gA s 1).set f v)) := (Fx.refl ..).sA (by simp)
    have oA : ∀ k, k ≠ 1 → gA (sA s 1 ((gA s 1).set f v)) k = gA s k := fun k hk => by rw [gA_sA, if_neg hk]
    have o1 : gA (sA s 1 ((gA s 1).set f v)) 1 = (gA s 1).set f v := by rw [gA_sA, if_pos rfl]
    refine ⟨sA s 1 ((gA s 1).set f v), ?_, c, ls, G.same F ?_ ?_ ?_ ?_ ?_ ?_, ?_, ?_, ?_, ?_, ?_, D, q1, q2, q3, q4, ?_⟩
    · show (Jvm.AM.st (gA s 1) (Int32.ofNat f) v).bind _ = _
      rw [st_ofNat _ _ (by omega) (by omega), Option.bind_some]
    · rw [o1, List.length_set]; exact k1
    · rw [oA 2 (by decide)]; exact k2
    · rw [oA 3 (by decide)]; exact l3
    · rw [oA 4 (by decide)]; exact l4
    · rw [oA 5 (by decide)]; exact l5
    · rw [oA 6 (by decide)]; exact l6
    · obtain ⟨t1, t2, t3, t4⟩ := RS'
      exact ⟨by rw [oA 0 (by decide)]; exact t1, t2, t3, t4⟩
    · intro g hg
      rw [o1]
      dsimp only
      unfold aupd
      by_cases q : g = f
      · subst q; rw [if_pos rfl, List.getElem?_set_self (by omega)]
      · rw [if_neg q, List.getElem?_set_ne (by omega)]; exact V g hg
    · intro g hg; rw [oA 2 (by decide)]; exact C g hg
    · intro g hg; rw [oA 3 (by decide)]; exact P g hg
    · intro g hg; rw [oA 4 (by decide), oA 5 (by decide), oA 6 (by decide)]; exact M g hg
    · intro g hg q
      dsimp only at q ⊢
      unfold aupd
      by_cases w : g = f
      · subst w; omega
      · rw [if_neg w]; exact q5 g hg q
def aFrame (v : Int32) : Option Nat := if v < 0 then none else if v < 8 then some v.toNatClampNeg else none
theorem frame_cases {s : S} (g0 : gI s 0 = 8) (v : Int32) : (aFrame v = none ∧ k_frameInRange v s = 0) ∨ ∃ f, f < 8 ∧ v = Int32.ofNat f ∧ aFrame v = some f ∧ k_frameInRange v s = 1 := by
  unfold aFrame k_frameInRange
  rw [g0]
  by_cases q1 : v < 0
  · left; simp [q1]
  by_cases q2 : v < 8
  · right
    have := clamp_lt (n := 8) q1 q2 (by omega)
    exact ⟨v.toNatClampNeg, this, (eq_ofNat q1).1, by rw [if_neg q1, if_pos q2], by rw [if_neg q1, if_pos q2]⟩
  · left; simp [q1, q2]
theorem aFrame_nat {f : Nat} (hf : f < 8) : aFrame (Int32.ofNat f) = some f := by
  unfold aFrame
  rw [if_neg (ofNat_nonneg (by omega)), if_pos ((lt_lit (by omega)).mpr hf), ofNat_clamp (by omega)]
theorem enc_inj {x y : Nat} (hx : x < 1000) (hy : y < 1000) : Int32.ofNat x = Int32.ofNat y ↔ x = y := by
  constructor
  · intro e
    have := congrArg Int32.toInt e
    rw [ofNat_toInt (by omega), ofNat_toInt (by omega)] at this
    omega
  · intro e; rw [e]
def aTurn (a : Abs) (v : Int32) (p q : Nat) : Int32 × Abs := match aFrame v with
  | none => (0, a)
  | some f => if a.1 f = p then (1, (aupd a.1 f q, a.2)) else (0, a)
theorem turn_core {s : S} {a : Abs} {p q : Nat} (hp : p = 1 ∨ p = 2) (hq : q = 1 ∨ q = 2) (h : R s a) {f : Nat} (hf : f < 8) (e : a.1 f = p) : ∃ s', k_enterState (Int32.ofNat f) (Int32.ofNat q) s = some s' ∧ R s' (aupd a.1 f q, a.2) := by
  obtain ⟨c, ls, G, RS', V, C, P, M, K⟩ := h
  obtain ⟨D, q1, q2, q3, q4, q5⟩ := id K
  obtain ⟨u, eu, Fu, Gu, Ru⟩ := enter_ok G RS' hf (x := q) (by omega)
  refine ⟨u, eu, c, ls, Gu, Ru, ?_, ?_, ?_, ?_, D, q1, q2, q3, ?_, ?_⟩
  · intro g hg; rw [Fu.2.2.1 1 (by simp)]; exact V g hg
  · intro g hg; rw [Fu.2.2.1 2 (by simp)]; exact C g hg
  · intro g hg; rw [Fu.2.2.1 3 (by simp)]; exact P g hg
  · intro g hg; rw [Fu.2.2.1 4 (by simp), Fu.2.2.1 5 (by simp), Fu.2.2.1 6 (by simp)]; exact M g hg
  · intro g hg
    dsimp only
    unfold aupd
    by_cases w : g = f
    · subst w; rw [if_pos rfl, q4 g hg]; omega
    · rw [if_neg w]; exact q4 g hg
  · intro g hg z
    dsimp only at z ⊢
    unfold aupd at z
    by_cases w : g = f
    · rw [if_pos w] at z; omega
    · rw [if_neg w] at z; exact q5 g hg z
theorem pin_ok {s : S} {a : Abs} (h : R s a) (v : Int32) : ∃ s', k_pin v s = some ((aTurn a v 1 2).1, s') ∧ R s' (aTurn a v 1 2).2 := by
  have g0 : gI s 0 = 8 := by obtain ⟨c, ls, G, _⟩ := h; exact G.1
  have RS' : RS s a.1 := by obtain ⟨c, ls, G, RS', _⟩ := h; exact RS'
  unfold k_pin aTurn
  rcases frame_cases g0 v with ⟨n1, n2⟩ | ⟨f, hf, ev, n1, n2⟩
  · rw [n1, n2, if_pos rfl]; exact ⟨s, rfl, h⟩
  · obtain ⟨z1, z2⟩ := RS'.1 f hf
    rw [n1, n2, if_neg (by decide), ev, ix_ofNat _ (by omega), z2, Option.bind_some]
    dsimp only
    by_cases e : a.1 f = 1
    · obtain ⟨s', es, Rs⟩ := turn_core (p := 1) (q := 2) (Or.inl rfl) (Or.inr rfl) h hf e
      rw [if_pos (show Int32.ofNat (a.1 f) = 1 by rw [e]; rfl), if_pos e, show (2 : Int32) = Int32.ofNat 2 from rfl, es, Option.bind_some]
      exact ⟨s', rfl, Rs⟩
    · rw [if_neg (show ¬ Int32.ofNat (a.1 f) = 1 from fun q => e ((enc_inj (by omega) (by omega)).mp q)), if_neg e]
      exact ⟨s, rfl, h⟩
theorem unpin_ok {s : S} {a : Abs} (h : R s a) (v : Int32) : ∃ s', k_unpin v s = some ((aTurn a v 2 1).1, s') ∧ R s' (aTurn a v 2 1).2 := by
  have g0 : gI s 0 = 8 := by obtain ⟨c, ls, G, _⟩ := h; exact G.1
  have RS' : RS s a.1 := by obtain ⟨c, ls, G, RS', _⟩ := h; exact RS'
  unfold k_unpin aTurn
  rcases frame_cases g0 v with ⟨n1, n2⟩ | ⟨f, hf, ev, n1, n2⟩
  · rw [n1, n2, if_pos rfl]; exact ⟨s, rfl, h⟩
  · obtain ⟨z1, z2⟩ := RS'.1 f hf
    rw [n1, n2, if_neg (by decide), ev, ix_ofNat _ (by omega), z2, Option.bind_some]
    dsimp only
    by_cases e : a.1 f = 2
    · obtain ⟨s', es, Rs⟩ := turn_core (p := 2) (q := 1) (Or.inr rfl) (Or.inl rfl) h hf e
      rw [if_pos (show Int32.ofNat (a.1 f) = 2 by rw [e]; rfl), if_pos e, show (1 : Int32) = Int32.ofNat 1 from rfl, es, Option.bind_some]
      exact ⟨s', rfl, Rs⟩
    · rw [if_neg (show ¬ Int32.ofNat (a.1 f) = 2 from fun q => e ((enc_inj (by omega) (by omega)).mp q)), if_neg e]
      exact ⟨s, rfl, h⟩
theorem con_empty {a : Abs} {c : Nat → Nat} {ls : Nat → List Nat} (K : Con a c ls) {f : Nat} (hf : f < 8) (e : a.1 f = 0 ∨ a.1 f = 3) : ls f = [] ∧ c f = 0 := by
  obtain ⟨D, q1, q2, q3, q4, q5⟩ := id K
  have hc : c f = 0 := by
    rcases Nat.eq_zero_or_pos (c f) with q | q
    · exact q
    · have := (q4 f hf).mp q; omega
  refine ⟨?_, hc⟩
  rw [q1 f hf] at hc
  exact List.length_eq_zero_iff.mp hc
theorem con_wipe {a : Abs} {c : Nat → Nat} {ls : Nat → List Nat} (K : Con a c ls) {f x : Nat} (hf : f < 8) (e : a.1 f = 0 ∨ a.1 f = 3) (hx : x = 0 ∨ x = 3) : Con (aupd a.1 f x, aupd a.2.1 f 0, a.2.2) (aupd c f 0) ls := by
  obtain ⟨z1, z2⟩ := con_empty K hf e
  obtain ⟨D, q1, q2, q3, q4, q5⟩ := id K
  have uc : aupd c f 0 = c := by rw [← z2]; exact upd_self c f
  rw [uc]
  refine ⟨D, q1, q2, q3, ?_, ?_⟩
  · intro g hg
    dsimp only
    unfold aupd
    by_cases w : g = f
    · subst w; rw [if_pos rfl]; omega
    · rw [if_neg w]; exact q4 g hg
  · intro g hg z
    dsimp only at z ⊢
    unfold aupd at z ⊢
    by_cases w : g = f
    · rw [if_pos w]
    · rw [if_neg w] at z ⊢; exact q5 g hg z
def aRelease (a : Abs) (v : Int32) : Int32 × Abs := match aFrame v with
  | none => (0, a)
  | some f => if a.1 f = 3 then (1, (aupd a.1 f 0, aupd a.2.1 f 0, a.2.2)) else (0, a)
theorem release_ok {s : S} {a : Abs} (h : R s a) (v : Int32) : ∃ s', k_release v s = some ((aRelease a v).1, s') ∧ R s' (aRelease a v).2 := by
  obtain ⟨c, ls, G, RS', V, C, P, M, K⟩ := id h
  have g0 : gI s 0 = 8 := G.1
  unfold k_release aRelease
  rcases frame_cases g0 v with ⟨n1, n2⟩ | ⟨f, hf, ev, n1, n2⟩
  · rw [n1, n2, if_pos rfl]; exact ⟨s, rfl, h⟩
  · obtain ⟨z1, z2⟩ := RS'.1 f hf
    rw [n1, n2, if_neg (by decide), ev, ix_ofNat _ (by omega), z2, Option.bind_some]
    dsimp only
    by_cases e : a.1 f = 3
    · obtain ⟨y1, y2⟩ := con_empty K hf (Or.inr e)
      obtain ⟨s', es, Fs, Gs, Rs, Vs, Cs, Ps, Ms⟩ := free_ok G RS' V C P M hf y1
      rw [if_pos (show Int32.ofNat (a.1 f) = 3 by rw [e]; rfl), if_pos e, es, Option.bind_some]
      exact ⟨s', rfl, _, _, Gs, Rs, Vs, Cs, Ps, Ms, con_wipe K hf (Or.inr e) (Or.inl rfl)⟩
    · rw [if_neg (show ¬ Int32.ofNat (a.1 f) = 3 from fun q => e ((enc_inj (by omega) (by omega)).mp q)), if_neg e]
      exact ⟨s, rfl, h⟩
def run (m : Nat) : Nat → Nat
  | 0 => m
  | k + 1 => (List.range 8).foldl (fun r s => if s % 2 ^ (k + 1) = 0 ∧ (run m k).testBit s ∧ (run m k).testBit (s + 2 ^ k) then r + 2 ^ s else r) 0
theorem w_lev : ∀ m : Fin 256, ∀ k : Fin 7, lev (Int64.ofNat m.val) k.val = Int64.ofNat (run m.val k.val) ∧ run m.val k.val < 256 ∧ ∀ s : Fin 8, (run m.val k.val).testBit s.val = (decide (s.val % 2 ^ k.val = 0) && (List.range (2 ^ k.val)).all fun j => decide (s.val + j < 8) && m.val.testBit (s.val + j)) := by decide +kernel
def runAt (st : Nat → Nat) (k s : Nat) : Bool := decide (s % 2 ^ k = 0) && (List.range (2 ^ k)).all fun j => decide (s + j < 8) && decide (st (s + j) = 0)
def lowRun (st : Nat → Nat) (k : Nat) : Option Nat := (List.range 8).find? fun s => runAt st k s
theorem refresh_ok {s : S} {a : Abs} (h : R s a) : ∃ s', k_refreshRuns s = some s' ∧ R s' a ∧ gL s' 2 = gL s 2 ∧ ∀ k, k < 7 → (gB s' 7)[k]? = some (lev (gL s 2) k) := by
  obtain ⟨c, ls, G, RS', V, C, P, M, K⟩ := id h
  obtain ⟨g0, g1, l0, k1, k2, l3, l4, l5, l6, l7, g6⟩ := id G
  obtain ⟨t1, t2, t3, t4⟩ := id RS'
  rcases g6 with q | q
  · refine ⟨s, ?_, h, rfl, t4 q⟩
    unfold k_refreshRuns; rw [if_pos q]
  · obtain ⟨t, e, F, lv, i6, lt⟩ := own_runs s q l7
    have oA : ∀ k, gA t k = gA s k := fun k => F.2.2.1 k (by simp)
    refine ⟨t, e, ⟨c, ls, ⟨by rw [F.1 0 (by simp)]; exact g0, by rw [F.1 1 (by simp)]; exact g1, by rw [oA]; exact l0, by rw [oA]; exact k1, by rw [oA]; exact k2, by rw [oA]; exact l3, by rw [oA]; exact l4, by rw [oA]; exact l5, by rw [oA]; exact l6, lt, Or.inl i6⟩, ⟨by rw [oA]; exact t1, by rw [F.2.1 2 (by simp)]; exact t2, by rw [F.2.1 3 (by simp)]; exact t3, by rw [F.2.1 2 (by simp)]; exact fun _ => lv⟩, fun g hg => by rw [oA]; exact V g hg, fun g hg => by rw [oA]; exact C g hg, fun g hg => by rw [oA]; exact P g hg, fun g hg => by rw [oA, oA, oA]; exact M g hg, K⟩, F.2.1 2 (by simp), lv⟩
theorem lowRun_ok {m : Nat} (hm : m < 256) {st : Nat → Nat} (b : ∀ f, f < 8 → m.testBit f = decide (st f = 0)) {k : Nat} (hk : k < 7) : (lev (Int64.ofNat m) k = 0 ∧ lowRun st k = none) ∨ ∃ f, f < 8 ∧ lev (Int64.ofNat m) k ≠ 0 ∧ lowRun st k = some f ∧ runAt st k f = true ∧ k_lowestBit (lev (Int64.ofNat m) k) = Int32.ofNat f := by
  obtain ⟨w1, w2, w3⟩ := w_lev ⟨m, hm⟩ ⟨k, hk⟩
  dsimp only at w1 w2 w3
  have w4 : ∀ f, f < 8 → (run m k).testBit f = runAt st k f := fun f hf => by
    rw [w3 ⟨f, hf⟩]
    unfold runAt
    dsimp only
    congr 1
    apply List.all_congr rfl
    intro j
    by_cases q : f + j < 8
    · rw [b _ q]
    · simp [q]
  rw [w1]
  by_cases q : run m k = 0
  · left
    refine ⟨(w_zero ⟨_, w2⟩).mpr q, ?_⟩
    unfold lowRun
    rw [List.find?_eq_none]
    intro f hf
    have := w4 f (List.mem_range.mp hf)
    rw [q, Nat.zero_testBit] at this
    rw [← this]; simp
  · right
    obtain ⟨v1, v2, v3, v4⟩ := w_low ⟨run m k, w2⟩ q
    dsimp only at v1 v2 v3 v4
    refine ⟨low (run m k), v3, fun e => q ((w_zero ⟨_, w2⟩).mp e), ?_, by rw [← w4 _ v3]; exact v2, v1⟩
    unfold lowRun
    rw [List.find?_range_eq_some]
    refine ⟨by rw [← w4 _ v3]; exact v2, by simpa using v3, ?_⟩
    intro j hj
    have := w4 j (by omega)
    rw [v4 ⟨j, by omega⟩ hj] at this
    rw [← this]; rfl
def resv (st : Nat → Nat) (val : Nat → Int32) (f : Nat) : Nat → (Nat → Nat) × (Nat → Int32)
  | 0 => (st, val)
  | n + 1 => (aupd (resv st val f n).1 (f + n) 3, aupd (resv st val f n).2 (f + n) 0)
theorem resv_st (st : Nat → Nat) (val : Nat → Int32) (f : Nat) : ∀ n g, (resv st val f n).1 g = if f ≤ g ∧ g < f + n then 3 else st g
  | 0, g => by rw [if_neg (by omega)]; rfl
  | n + 1, g => by
    show (aupd (resv st val f n).1 (f + n) 3) g = _
    unfold aupd
    by_cases q : g = f + n
    · rw [if_pos q, if_pos (by omega)]
    · rw [if_neg q, resv_st st val f n g]
      by_cases w : f ≤ g ∧ g < f + n
      · rw [if_pos w, if_pos (by omega)]
      · rw [if_neg w, if_neg (by omega)]
theorem reserve_loop {a : Abs} {f n : Nat} (hn : f + n ≤ 8) (e : ∀ j, j < n → a.1 (f + j) = 0) : ∀ m i s N, i + m = n → m < N → R s ((resv a.1 a.2.1 f i).1, (resv a.1 a.2.1 f i).2, a.2.2) → ∃ s', k_reserveRun_7 N (Int32.ofNat f) (Int32.ofNat n) (Int32.ofNat i) s = some s' ∧ R s' ((resv a.1 a.2.1 f n).1, (resv a.1 a.2.1 f n).2, a.2.2)
  | m, i, s, 0, _, h, _ => by omega
  | 0, i, s, N + 1, hi, _, h => by
    have : i = n := by omega
    subst this
    refine ⟨s, ?_, h⟩
    rw [k_reserveRun_7, if_neg (by rw [ofNat_lt (by omega) (by omega)]; omega)]
  | m + 1, i, s, N + 1, hi, hN, h => by
    obtain ⟨c, ls, G, RS', V, C, P, M, K⟩ := id h
    have hst : (resv a.1 a.2.1 f i).1 (f + i) = 0 := by
      rw [resv_st, if_neg (by omega)]; exact e i (by omega)
    obtain ⟨y1, y2⟩ := con_empty K (f := f + i) (by omega) (Or.inl hst)
    obtain ⟨s', es, Fs, Gs, Rs, Vs, Cs, Ps, Ms⟩ := reserve_ok G RS' V C P M (f := f + i) (by omega) y1
    obtain ⟨s2, e2, R2⟩ := reserve_loop hn e m (i + 1) s' N (by omega) (by omega) ⟨_, _, Gs, Rs, Vs, Cs, Ps, Ms, con_wipe K (by omega) (Or.inl hst) (Or.inr rfl)⟩
    refine ⟨s2, ?_, R2⟩
    rw [k_reserveRun_7, if_pos (by rw [ofNat_lt (by omega) (by omega)]; omega), if_pos ((lt_lit (m := 64) (by omega) (by decide)).mpr (by omega)), ofNat_add', es, Option.bind_some, ofNat_succ]
    exact e2
def aAlloc (a : Abs) (v : Int32) : Int32 × Abs := if v < 0 then (-1, a) else if 6 < v then (-1, a) else match lowRun a.1 v.toNatClampNeg with
  | none => (-4, a)
  | some f => (Int32.ofNat f, ((resv a.1 a.2.1 f (2 ^ v.toNatClampNeg)).1, (resv a.1 a.2.1 f (2 ^ v.toNatClampNeg)).2, a.2.2))
theorem runAt_iff {st : Nat → Nat} {k f : Nat} (h : runAt st k f = true) : f % 2 ^ k = 0 ∧ f + 2 ^ k ≤ 8 ∧ ∀ j, j < 2 ^ k → st (f + j) = 0 := by
  unfold runAt at h
  simp only [Bool.and_eq_true, decide_eq_true_eq, List.all_eq_true, List.mem_range] at h
  have p : 0 < 2 ^ k := Nat.two_pow_pos k
  refine ⟨h.1, ?_, fun j hj => (h.2 j hj).2⟩
  have := (h.2 (2 ^ k - 1) (by omega)).1
  omega
theorem pow_sh : ∀ k : Fin 7, (1 : Int32) <<< (Int32.ofNat k.val &&& 31) = Int32.ofNat (2 ^ k.val) := by decide +kernel
theorem alloc_ok {s : S} {a : Abs} (h : R s a) (v : Int32) : ∃ s', k_allocBlock v s = some ((aAlloc a v).1, s') ∧ R s' (aAlloc a v).2 := by
  unfold k_allocBlock aAlloc
  by_cases q0 : v < 0
  · rw [if_pos q0, if_pos q0]; exact ⟨s, rfl, h⟩
  rw [if_neg q0, if_neg q0]
  by_cases q1 : 6 < v
  · rw [if_pos q1, if_pos q1]; exact ⟨s, rfl, h⟩
  rw [if_neg q1, if_neg q1]
  obtain ⟨k, hk⟩ : ∃ k, k = v.toNatClampNeg := ⟨_, rfl⟩
  have ev : v = Int32.ofNat k := by rw [hk]; exact (eq_ofNat q0).1
  have k7 : k < 7 := by
    have := (eq_ofNat q0).2
    rw [← hk] at this
    rw [ev, show (6 : Int32) = Int32.ofNat 6 from rfl, ofNat_lt (by omega) (by omega)] at q1
    omega
  rw [← hk]
  obtain ⟨t, et, Rt, L2, lv⟩ := refresh_ok h
  have fr : k_freeRunsOfOrder v s = some (lev (gL s 2) k, t) := by
    unfold k_freeRunsOfOrder
    rw [if_neg q0, if_neg q1, et, Option.bind_some, ev, ix_ofNat _ (by omega), lv k k7, Option.bind_some]
  rw [fr, Option.bind_some]
  dsimp only
  obtain ⟨c, ls, G, RS', _⟩ := id Rt
  obtain ⟨t1, ⟨m, hm, em, bm⟩, t3, t4⟩ := id RS'
  rw [← L2, em]
  rcases lowRun_ok hm bm k7 with ⟨z1, z2⟩ | ⟨f, hf, z1, z2, z3, z4⟩
  · rw [if_pos z1, z2]; exact ⟨t, rfl, Rt⟩
  · obtain ⟨y1, y2, y3⟩ := runAt_iff z3
    rw [if_neg z1, z2, z4, inr_yes G.1 hf, if_neg (by decide)]
    dsimp only
    obtain ⟨s', es, Rs⟩ := reserve_loop y2 y3 (2 ^ k) 0 t BIG (by omega) (by unfold BIG; omega) Rt
    unfold k_reserveRun
    rw [ev, pow_sh ⟨k, k7⟩]
    dsimp only
    rw [show (0 : Int32) = Int32.ofNat 0 from rfl, es, Option.bind_some]
    exact ⟨s', rfl, Rs⟩
theorem w_and (a b : Nat) : Int64.ofNat a &&& Int64.ofNat b = Int64.ofNat (a &&& b) := by
  apply Int64.toBitVec_inj.mp
  simp
theorem and_lt {a b : Nat} (h : a < 256) : a &&& b < 256 := Nat.lt_of_le_of_lt Nat.and_le_left h
theorem R.fx {s t : S} {a : Abs} (h : R s a) (F : Fx [7, 8, 9, 10] [] [] [] s t) : R t a := by
  obtain ⟨c, ls, G, RS', V, C, P, M, K⟩ := h
  obtain ⟨g0, g1, l0, k1, k2, l3, l4, l5, l6, l7, g6⟩ := id G
  obtain ⟨t1, t2, t3, t4⟩ := id RS'
  have oA : ∀ k, gA t k = gA s k := fun k => F.2.2.1 k (by simp)
  have oB : ∀ k, gB t k = gB s k := fun k => F.2.2.2 k (by simp)
  have oL : ∀ k, gL t k = gL s k := fun k => F.2.1 k (by simp)
  exact ⟨c, ls, ⟨by rw [F.1 0 (by simp)]; exact g0, by rw [F.1 1 (by simp)]; exact g1, by rw [oA]; exact l0, by rw [oA]; exact k1, by rw [oA]; exact k2, by rw [oA]; exact l3, by rw [oA]; exact l4, by rw [oA]; exact l5, by rw [oA]; exact l6, by rw [oB]; exact l7, by rw [F.1 6 (by simp)]; exact g6⟩, ⟨by rw [oA]; exact t1, by rw [oL]; exact t2, by rw [oL]; exact t3, by rw [oL, oB, F.1 6 (by simp)]; exact t4⟩, fun g hg => by rw [oA]; exact V g hg, fun g hg => by rw [oA]; exact C g hg, fun g hg => by rw [oA]; exact P g hg, fun g hg => by rw [oA, oA, oA]; exact M g hg, K⟩
def mig (st : Nat → Nat) (lo hi : Nat) : Nat := if lo < hi then ((List.range 8).find? fun f => decide (lo ≤ f) && decide (f < hi) && decide (st f = 1)).getD hi else lo
def fret (st : Nat → Nat) (lo hi : Nat) : Nat := if lo < hi then (((List.range 8).find? fun i => decide (lo < 7 - i) && decide (7 - i ≤ hi) && decide (st (7 - i) = 0)).map fun i => 7 - i).getD lo else hi
theorem mig_spec (st : Nat → Nat) {lo hi : Nat} (h : lo < hi) (hh : hi ≤ 8) : (mig st lo hi = hi ∧ ∀ f, lo ≤ f → f < hi → st f ≠ 1) ∨ (lo ≤ mig st lo hi ∧ mig st lo hi < hi ∧ st (mig st lo hi) = 1 ∧ ∀ f, lo ≤ f → f < mig st lo hi → st f ≠ 1) := by
  unfold mig
  rw [if_pos h]
  cases e : (List.range 8).find? fun f => decide (lo ≤ f) && decide (f < hi) && decide (st f = 1) with
  | none =>
    left
    rw [List.find?_range_eq_none] at e
    refine ⟨rfl, fun f h1 h2 q => ?_⟩
    have := e f (by omega)
    simp [h1, h2, q] at this
  | some m =>
    right
    rw [List.find?_range_eq_some] at e
    obtain ⟨e1, e2, e3⟩ := e
    simp only [Bool.and_eq_true, decide_eq_true_eq] at e1
    refine ⟨e1.1.1, e1.1.2, e1.2, fun f h1 h2 q => ?_⟩
    have h2' : f < m := h2
    have := e3 f h2'
    simp [h1, q] at this
    omega
theorem ret_spec (st : Nat → Nat) {lo hi : Nat} (h : lo < hi) (hh : hi ≤ 7) : (fret st lo hi = lo ∧ ∀ f, lo < f → f ≤ hi → st f ≠ 0) ∨ (lo < fret st lo hi ∧ fret st lo hi ≤ hi ∧ st (fret st lo hi) = 0 ∧ ∀ f, fret st lo hi < f → f ≤ hi → st f ≠ 0) := by
  unfold fret
  rw [if_pos h]
  cases e : (List.range 8).find? fun i => decide (lo < 7 - i) && decide (7 - i ≤ hi) && decide (st (7 - i) = 0) with
  | none =>
    left
    rw [List.find?_range_eq_none] at e
    refine ⟨rfl, fun f h1 h2 q => ?_⟩
    have := e (7 - f) (by omega)
    rw [show 7 - (7 - f) = f by omega] at this
    simp [h1, h2, q] at this
  | some m =>
    right
    rw [List.find?_range_eq_some] at e
    obtain ⟨e1, e2, e3⟩ := e
    have e2' := List.mem_range.mp e2
    simp only [Bool.and_eq_true, decide_eq_true_eq] at e1
    refine ⟨e1.1.1, e1.1.2, e1.2, fun f h1 h2 q => ?_⟩
    have h1' : 7 - m < f := h1
    have := e3 (7 - f) (by omega)
    rw [show 7 - (7 - f) = f by omega] at this
    simp [h2, q] at this
    omega
theorem adv_ok {s : S} {a : Abs} (h : R s a) {lo hi : Nat} (hl : lo ≤ 8) (hh : hi ≤ 7) (e9 : gI s 9 = Int32.ofNat lo) (e10 : gI s 10 = Int32.ofNat hi) : ∃ t, k_advanceMigrateScanner s = t ∧ Fx [7, 8, 9, 10] [] [] [] s t ∧ gI t 9 = Int32.ofNat (mig a.1 lo hi) ∧ gI t 10 = gI s 10 ∧ gI t 8 = gI s 8 ∧ gI t 7 = gI s 7 := by
  obtain ⟨c, ls, G, RS', _⟩ := h
  obtain ⟨t1, t2, ⟨m, hm, em, bm⟩, t4⟩ := RS'
  unfold k_advanceMigrateScanner
  rw [e9, e10]
  by_cases q : lo < hi
  · rw [if_pos ((ofNat_lt (by omega) (by omega)).mpr q)]
    obtain ⟨w1, w2, w3⟩ := w_rng ⟨lo, by omega⟩ ⟨hi, by omega⟩
    dsimp only at w1 w2 w3
    rw [w1, em, w_and]
    have hc : m &&& rng lo hi < 256 := and_lt hm
    have bits : ∀ f, f < 8 → (m &&& rng lo hi).testBit f = (decide (a.1 f = 1) && decide (lo ≤ f ∧ f < hi)) := fun f hf => by
      rw [Nat.testBit_and, bm f hf, w3 ⟨f, hf⟩]
    by_cases z : m &&& rng lo hi = 0
    · rw [if_pos ((w_zero ⟨_, hc⟩).mpr z)]
      refine ⟨_, rfl, (Fx.refl ..).sI (by simp), ?_, by simp [gI_sI, e10], by simp [gI_sI], by simp [gI_sI]⟩
      rw [gI_sI, if_pos rfl]
      rcases mig_spec a.1 q (by omega) with ⟨y, _⟩ | ⟨y1, y2, y3, _⟩
      · rw [y]
      · have := bits (mig a.1 lo hi) (by omega)
        rw [z, Nat.zero_testBit] at this
        simp [y1, y2, y3] at this
    · rw [if_neg (fun e => z ((w_zero ⟨_, hc⟩).mp e))]
      obtain ⟨v1, v2, v3, v4⟩ := w_low ⟨_, hc⟩ z
      dsimp only at v1 v2 v3 v4
      rw [v1]
      refine ⟨_, rfl, (Fx.refl ..).sI (by simp), ?_, by simp [gI_sI, e10], by simp [gI_sI], by simp [gI_sI]⟩
      rw [gI_sI, if_pos rfl]
      congr 1
      have b1 := bits _ v3
      rw [v2] at b1
      simp only [Bool.true_eq, Bool.and_eq_true, decide_eq_true_eq] at b1
      rcases mig_spec a.1 q (by omega) with ⟨y, y'⟩ | ⟨y1, y2, y3, y4⟩
      · exact absurd b1.1 (y' _ b1.2.1 b1.2.2)
      · rcases Nat.lt_trichotomy (low (m &&& rng lo hi)) (mig a.1 lo hi) with w | w | w
        · exact absurd b1.1 (y4 _ b1.2.1 w)
        · exact w
        · have b2 := bits (mig a.1 lo hi) (by omega)
          rw [v4 ⟨mig a.1 lo hi, by omega⟩ w] at b2
          simp [y1, y2, y3] at b2
  · rw [if_neg (fun e => q ((ofNat_lt (by omega) (by omega)).mp e))]
    refine ⟨s, rfl, Fx.refl .., ?_, e10, rfl, rfl⟩
    unfold mig; rw [if_neg q]; exact e9
theorem ret_ok {s : S} {a : Abs} (h : R s a) {lo hi : Nat} (hl : lo ≤ 8) (hh : hi ≤ 7) (e9 : gI s 9 = Int32.ofNat lo) (e10 : gI s 10 = Int32.ofNat hi) : ∃ t, k_retreatFreeScanner s = t ∧ Fx [7, 8, 9, 10] [] [] [] s t ∧ gI t 10 = Int32.ofNat (fret a.1 lo hi) ∧ gI t 9 = gI s 9 ∧ gI t 8 = gI s 8 ∧ gI t 7 = gI s 7 := by
  obtain ⟨c, ls, G, RS', _⟩ := h
  obtain ⟨t1, ⟨m, hm, em, bm⟩, t3, t4⟩ := RS'
  unfold k_retreatFreeScanner
  rw [e9, e10]
  by_cases q : lo < hi
  · rw [if_pos ((ofNat_lt (by omega) (by omega)).mpr q), ofNat_succ, ofNat_succ]
    obtain ⟨w1, w2, w3⟩ := w_rng ⟨lo + 1, by omega⟩ ⟨hi + 1, by omega⟩
    dsimp only at w1 w2 w3
    rw [w1, em, w_and]
    have hc : m &&& rng (lo + 1) (hi + 1) < 256 := and_lt hm
    have bits : ∀ f, f < 8 → (m &&& rng (lo + 1) (hi + 1)).testBit f = (decide (a.1 f = 0) && decide (lo + 1 ≤ f ∧ f < hi + 1)) := fun f hf => by
      rw [Nat.testBit_and, bm f hf, w3 ⟨f, hf⟩]
    by_cases z : m &&& rng (lo + 1) (hi + 1) = 0
    · rw [if_pos ((w_zero ⟨_, hc⟩).mpr z)]
      refine ⟨_, rfl, (Fx.refl ..).sI (by simp), ?_, by simp [gI_sI, e9], by simp [gI_sI], by simp [gI_sI]⟩
      rw [gI_sI, if_pos rfl]
      rcases ret_spec a.1 q hh with ⟨y, _⟩ | ⟨y1, y2, y3, _⟩
      · rw [y]
      · have := bits (fret a.1 lo hi) (by omega)
        rw [z, Nat.zero_testBit] at this
        simp [y3] at this
        omega
    · rw [if_neg (fun e => z ((w_zero ⟨_, hc⟩).mp e))]
      obtain ⟨v1, v2, v3, v4⟩ := w_high ⟨_, hc⟩ z
      dsimp only at v1 v2 v3 v4
      rw [v1]
      refine ⟨_, rfl, (Fx.refl ..).sI (by simp), ?_, by simp [gI_sI, e9], by simp [gI_sI], by simp [gI_sI]⟩
      rw [gI_sI, if_pos rfl]
      congr 1
      have b1 := bits _ v3
      rw [v2] at b1
      simp only [Bool.true_eq, Bool.and_eq_true, decide_eq_true_eq] at b1
      rcases ret_spec a.1 q hh with ⟨y, y'⟩ | ⟨y1, y2, y3, y4⟩
      · exact absurd b1.1 (y' _ (by omega) (by omega))
      · rcases Nat.lt_trichotomy (fret a.1 lo hi) (high (m &&& rng (lo + 1) (hi + 1))) with w | w | w
        · exact absurd b1.1 (y4 _ w (by omega))
        · exact w.symm
        · have b2 := bits (fret a.1 lo hi) (by omega)
          rw [v4 ⟨fret a.1 lo hi, by omega⟩ w] at b2
          simp [y3] at b2
          omega
  · rw [if_neg (fun e => q ((ofNat_lt (by omega) (by omega)).mp e))]
    refine ⟨s, rfl, Fx.refl .., ?_, e9, rfl, rfl⟩
    unfold fret; rw [if_neg q]; exact e10
def aStep (a : Abs) (m f : Nat) : Abs := (aupd (aupd a.1 f 1) m 0, aupd (aupd a.2.1 f (a.2.1 m)) m 0, fun x => if a.2.2 x = some m then some f else a.2.2 x)
theorem con_step {a : Abs} {c : Nat → Nat} {ls : Nat → List Nat} (K : Con a c ls) {m f : Nat} (hm : m < 8) (hf : f < 8) (sm : a.1 m = 1) (sf : a.1 f = 0) : Con (aStep a m f) (aupd (aupd c f (c m)) m 0) (aupd (aupd ls f (ls m)) m []) := by
  obtain ⟨y1, y2⟩ := con_empty K hf (Or.inl sf)
  obtain ⟨D, q1, q2, q3, q4, q5⟩ := id K
  have ne : m ≠ f := fun e => by rw [e, sf] at sm; cases sm
  have cases3 : ∀ g, (g = m ∧ (aupd (aupd ls f (ls m)) m []) g = [] ∧ (aupd (aupd c f (c m)) m 0) g = 0) ∨ (g = f ∧ (aupd (aupd ls f (ls m)) m []) g = ls m ∧ (aupd (aupd c f (c m)) m 0) g = c m) ∨ (g ≠ m ∧ g ≠ f ∧ (aupd (aupd ls f (ls m)) m []) g = ls g ∧ (aupd (aupd c f (c m)) m 0) g = c g) := fun g => by
    unfold aupd
    by_cases e : g = m
    · left; simp [e]
    · by_cases e' : g = f
      · right; left; simp [e, e']
        exact ⟨fun q => absurd q.symm ne, fun q => absurd q.symm ne⟩
      · right; right; simp [e, e']
  refine ⟨⟨fun g hg => ?_, fun g g' z hg hg' p p' => ?_⟩, fun g hg => ?_, fun g z hg => ?_, fun z g p => ?_, fun g hg => ?_, fun g hg p => ?_⟩
  · rcases cases3 g with ⟨e, w, _⟩ | ⟨e, w, _⟩ | ⟨e, e', w, _⟩
    · rw [w]; exact List.nodup_nil
    · rw [w]; exact D.1 m hm
    · rw [w]; exact D.1 g hg
  · rcases cases3 g with ⟨e, w, _⟩ | ⟨e, w, _⟩ | ⟨e, e', w, _⟩
    · rw [w] at p; cases p
    · rw [w] at p
      rcases cases3 g' with ⟨d, w', _⟩ | ⟨d, w', _⟩ | ⟨d, d', w', _⟩
      · rw [w'] at p'; cases p'
      · rw [e, d]
      · rw [w'] at p'; exact absurd (D.2 m g' z hm hg' p p').symm d
    · rw [w] at p
      rcases cases3 g' with ⟨d, w', _⟩ | ⟨d, w', _⟩ | ⟨d, d', w', _⟩
      · rw [w'] at p'; cases p'
      · rw [w'] at p'; exact absurd (D.2 g m z hg hm p p') e
      · rw [w'] at p'; exact D.2 g g' z hg hg' p p'
  · rcases cases3 g with ⟨e, w, u⟩ | ⟨e, w, u⟩ | ⟨e, e', w, u⟩
    · rw [w, u]; rfl
    · rw [w, u]; exact q1 m hm
    · rw [w, u]; exact q1 g hg
  · show _ ↔ (if a.2.2 z = some m then some f else a.2.2 z) = some g
    rcases cases3 g with ⟨e, w, u⟩ | ⟨e, w, u⟩ | ⟨e, e', w, u⟩
    · rw [w]
      refine ⟨fun p => (nomatch p), fun p => ?_⟩
      by_cases r : a.2.2 z = some m
      · rw [if_pos r] at p; exact absurd (e ▸ (Option.some.inj p).symm) ne
      · rw [if_neg r, e] at p; exact absurd p r
    · rw [w, q2 m z hm]
      by_cases r : a.2.2 z = some m
      · rw [if_pos r, e]; simp [r]
      · rw [if_neg r]
        refine ⟨fun p => absurd p r, fun p => ?_⟩
        rw [e] at p
        have := (q2 f z hf).mpr p
        rw [y1] at this; cases this
    · rw [w, q2 g z hg]
      by_cases r : a.2.2 z = some m
      · rw [if_pos r, r]
        exact ⟨fun p => absurd (Option.some.inj p).symm e, fun p => absurd (Option.some.inj p).symm e'⟩
      · rw [if_neg r]
  · change (if a.2.2 z = some m then some f else a.2.2 z) = some g at p
    by_cases r : a.2.2 z = some m
    · rw [if_pos r] at p; cases p; exact ⟨hf, (q3 z m r).2⟩
    · rw [if_neg r] at p; exact q3 z g p
  · show 0 < (aupd (aupd c f (c m)) m 0) g ↔ ((aupd (aupd a.1 f 1) m 0) g = 1 ∨ (aupd (aupd a.1 f 1) m 0) g = 2)
    rcases cases3 g with ⟨e, w, u⟩ | ⟨e, w, u⟩ | ⟨e, e', w, u⟩
    · rw [u]; unfold aupd; rw [if_pos e]; simp
    · rw [u]; unfold aupd; rw [if_neg (fun q => ne (q.symm.trans e)), if_pos e]
      exact ⟨fun _ => Or.inl rfl, fun _ => (q4 m hm).mpr (Or.inl sm)⟩
    · rw [u]; unfold aupd; rw [if_neg e, if_neg e']; exact q4 g hg
  · change (aupd (aupd a.1 f 1) m 0) g = 0 ∨ (aupd (aupd a.1 f 1) m 0) g = 3 at p
    show (aupd (aupd a.2.1 f (a.2.1 m)) m 0) g = 0
    unfold aupd at p ⊢
    by_cases e : g = m
    · rw [if_pos e]
    · rw [if_neg e] at p ⊢
      by_cases e' : g = f
      · rw [if_pos e'] at p; omega
      · rw [if_neg e'] at p ⊢; exact q5 g hg p
theorem migrate_ok {s : S} {a : Abs} (h : R s a) {m f : Nat} (hm : m < 8) (hf : f < 8) (sm : a.1 m = 1) (sf : a.1 f = 0) : ∃ s', k_migrateFrame (Int32.ofNat m) (Int32.ofNat f) s = some s' ∧ R s' (aStep a m f) ∧ Fx [6] [2, 3, 4, 5] [0, 1, 2, 3, 4] [] s s' := by
  obtain ⟨c, ls, G, RS', V, C, P, M, K⟩ := id h
  obtain ⟨g0, g1, l0, k1, k2, l3, l4, l5, l6, l7, g6⟩ := id G
  obtain ⟨y1, y2⟩ := con_empty K hf (Or.inl sf)
  have CS := con_step K hm hf sm sf
  obtain ⟨D, q1, q2, q3, q4, q5⟩ := id K
  have ne : m ≠ f := fun e => by rw [e, sf] at sm; cases sm
  obtain ⟨u, eu, Fu, Gu, Ru⟩ := enter_ok G RS' hf (x := 1) (by omega)
  have uA : ∀ k, k ≠ 0 → gA u k = gA s k := fun k hk => Fu.2.2.1 k (by simpa using hk)
  obtain ⟨w, hw⟩ : ∃ w, w = sA (sA u 1 ((gA s 1).set f (a.2.1 m))) 2 ((gA s 2).set f (Int32.ofNat (c m))) := ⟨_, rfl⟩
  have wA : ∀ k, k ≠ 1 → k ≠ 2 → gA w k = gA u k := fun k a b => by rw [hw, gA_sA, if_neg b, gA_sA, if_neg a]
  have w1 : gA w 1 = (gA s 1).set f (a.2.1 m) := by rw [hw]; simp [gA_sA]
  have w2 : gA w 2 = (gA s 2).set f (Int32.ofNat (c m)) := by rw [hw]; simp [gA_sA]
  have Fw : Fx [] [] [1, 2, 3, 4, 5, 6] [] u w := by
    have F0 : Fx [] [] [1, 2, 3, 4, 5, 6] [] u u := Fx.refl ..
    rw [hw]; exact (F0.sA (by simp)).sA (by simp)
  have Fw' : Fx [6] [2, 3, 4, 5] [0, 1, 2, 3, 4] [] u w := by
    have F0 : Fx [6] [2, 3, 4, 5] [0, 1, 2, 3, 4] [] u u := Fx.refl ..
    rw [hw]; exact (F0.sA (by simp)).sA (by simp)
  have Gw : Geo w := Gu.same Fw (by rw [w1, List.length_set]; exact k1) (by rw [w2, List.length_set]; exact k2) (by rw [wA 3 (by decide) (by decide), uA 3 (by decide)]; exact l3) (by rw [wA 4 (by decide) (by decide), uA 4 (by decide)]; exact l4) (by rw [wA 5 (by decide) (by decide), uA 5 (by decide)]; exact l5) (by rw [wA 6 (by decide) (by decide), uA 6 (by decide)]; exact l6)
  have Cw : RC w (aupd c f (c m)) := fun g hg => by
    rw [w2]
    unfold aupd
    by_cases q : g = f
    · subst q; rw [List.getElem?_set_self (by omega), if_pos rfl]
    · rw [List.getElem?_set_ne (by omega), if_neg q]; exact C g hg
  have Vw : RV w (aupd a.2.1 f (a.2.1 m)) := fun g hg => by
    rw [w1]
    unfold aupd
    by_cases q : g = f
    · subst q; rw [List.getElem?_set_self (by omega), if_pos rfl]
    · rw [List.getElem?_set_ne (by omega), if_neg q]; exact V g hg
  have Pw : RP w a.2.2 := fun z hz => by rw [wA 3 (by decide) (by decide), uA 3 (by decide)]; exact P z hz
  have Mw : RM w ls := fun g hg => by rw [wA 4 (by decide) (by decide), wA 5 (by decide) (by decide), wA 6 (by decide) (by decide), uA 4 (by decide), uA 5 (by decide), uA 6 (by decide)]; exact M g hg
  obtain ⟨t, et, Ft, Gt, Pt, Mt⟩ := transfer_ok Gw Pw Mw D hm hf ne y1
  have Rt : RS t (aupd a.1 f 1) := by
    obtain ⟨t1, t2, t3, t4⟩ := Ru
    have F2 : Fx [] [] [1, 2, 3, 4, 5, 6] [] u t := Fw.trans (Ft.mono (by simp) (by simp) (by simp) (by simp))
    exact ⟨by rw [F2.2.2.1 0 (by simp)]; exact t1, by rw [F2.2.1 2 (by simp)]; exact t2, by rw [F2.2.1 3 (by simp)]; exact t3, by rw [F2.1 6 (by simp), F2.2.2.2 7 (by simp), F2.2.1 2 (by simp)]; exact t4⟩
  have Vt : RV t (aupd a.2.1 f (a.2.1 m)) := fun g hg => by rw [Ft.2.2.1 1 (by simp)]; exact Vw g hg
  have Ct : RC t (aupd c f (c m)) := fun g hg => by rw [Ft.2.2.1 2 (by simp)]; exact Cw g hg
  have Pt' : RP t (aStep a m f).2.2 := fun z hz => by
    rw [Pt z hz]
    show some (pcode (if z ∈ ls m then some f else a.2.2 z)) = some (pcode (if a.2.2 z = some m then some f else a.2.2 z))
    by_cases r : z ∈ ls m
    · rw [if_pos r, if_pos ((q2 m z hm).mp r)]
    · rw [if_neg r, if_neg (fun e => r ((q2 m z hm).mpr e))]
  obtain ⟨s', es, Fs, Gs, Rs, Vs, Cs, Ps, Ms⟩ := free_ok Gt Rt Vt Ct Pt' Mt hm (by unfold aupd; rw [if_pos rfl])
  refine ⟨s', ?_, ⟨_, _, Gs, Rs, Vs, Cs, Ps, Ms, CS⟩, ?_⟩
  · obtain ⟨z1, z2⟩ := RS'.1 m hm
    obtain ⟨z3, z4⟩ := RS'.1 f hf
    unfold k_migrateFrame
    rw [inr_yes g0 hm, if_neg (by decide), inr_yes g0 hf, if_neg (by decide), ix_ofNat _ (by omega), z2, Option.bind_some, sm, if_pos (show Int32.ofNat 1 = 1 from rfl), ix_ofNat _ (by omega), z4, Option.bind_some, sf, if_pos (show Int32.ofNat 0 = 0 from rfl), ix_ofNat _ (by omega), V m hm, Option.bind_some, ix_ofNat _ (by omega), C m hm, Option.bind_some, show (1 : Int32) = Int32.ofNat 1 from rfl, eu, Option.bind_some, uA 1 (by decide), uA 2 (by decide), st_ofNat _ _ (by omega) (by omega), Option.bind_some, st_ofNat _ _ (by omega) (by omega), Option.bind_some, ← hw, et, Option.bind_some, es, Option.bind_some]
  · exact ((Fu.mono (by simp) (by simp) (by simp) (by simp)).trans Fw').trans ((Ft.mono (by simp) (by simp) (by simp) (by simp)).trans (Fs.mono (by simp) (by simp) (by simp) (by simp)))
def aGo : Nat → Abs → Nat → Nat → Nat → Nat → Nat × Abs
  | 0, a, _, _, k, _ => (k, a)
  | n + 1, a, lo, hi, k, lim => if mig a.1 lo hi < fret a.1 (mig a.1 lo hi) hi ∧ k ≠ lim then aGo n (aStep a (mig a.1 lo hi) (fret a.1 (mig a.1 lo hi) hi)) (mig a.1 lo hi + 1) (fret a.1 (mig a.1 lo hi) hi - 1) (k + 1) lim else (k, a)
theorem scan {st : Nat → Nat} {lo hi : Nat} (hh : hi ≤ 7) (w : mig st lo hi < fret st (mig st lo hi) hi) : lo ≤ mig st lo hi ∧ st (mig st lo hi) = 1 ∧ st (fret st (mig st lo hi) hi) = 0 ∧ fret st (mig st lo hi) hi ≤ hi ∧ lo < hi := by
  have lt : lo < hi := by
    rcases Nat.lt_or_ge lo hi with q | q
    · exact q
    · exfalso
      have e : mig st lo hi = lo := by unfold mig; rw [if_neg (by omega)]
      rw [e] at w
      have e2 : fret st lo hi = hi := by unfold fret; rw [if_neg (by omega)]
      omega
  have lt2 : mig st lo hi < hi := by
    rcases mig_spec st lt (by omega) with ⟨y, _⟩ | ⟨y1, y2, y3, _⟩
    · exfalso
      rw [y] at w
      have e2 : fret st hi hi = hi := by unfold fret; rw [if_neg (by omega)]
      omega
    · exact y2
  rcases mig_spec st lt (by omega) with ⟨y, _⟩ | ⟨y1, y2, y3, _⟩
  · omega
  rcases ret_spec st lt2 hh with ⟨y, _⟩ | ⟨z1, z2, z3, _⟩
  · omega
  exact ⟨y1, y3, z3, z2, lt⟩
theorem mig_le {st : Nat → Nat} {lo hi : Nat} (hl : lo ≤ 8) (hh : hi ≤ 7) : mig st lo hi ≤ 8 := by
  by_cases q : lo < hi
  · rcases mig_spec st q (by omega) with ⟨y, _⟩ | ⟨y1, y2, y3, _⟩ <;> omega
  · unfold mig; rw [if_neg q]; exact hl
theorem compact_loop : ∀ n s a lo hi k lim g N, R s a → hi ≤ 7 → lo ≤ 8 → k ≤ lo → g ≤ lo → lim ≤ 64 → 9 ≤ lo + n → n < N → gI s 9 = Int32.ofNat lo → gI s 10 = Int32.ofNat hi → gI s 8 = Int32.ofNat k → gI s 7 = Int32.ofNat lim → ∃ s', k_compact_34 N (Int32.ofNat g) s = some (Int32.ofNat (aGo n a lo hi k lim).1, s') ∧ R s' (aGo n a lo hi k lim).2
  | _, _, _, _, _, _, _, _, 0, _, _, _, _, _, _, _, h, _, _, _, _ => by omega
  | 0, _, _, _, _, _, _, _, N + 1, _, _, _, _, _, _, h, _, _, _, _, _ => by omega
  | n + 1, s, a, lo, hi, k, lim, g, N + 1, h, hh, hl, hk, hg, hlim, hn, hN, e9, e10, e8, e7 => by
    obtain ⟨t, et, Ft, t9, t10, t8, t7⟩ := adv_ok h hl hh e9 e10
    have Rt := h.fx Ft
    obtain ⟨u, eu, Fu, u10, u9, u8, u7⟩ := ret_ok Rt (mig_le hl hh) hh t9 (t10.trans e10)
    have Ru := Rt.fx Fu
    have ml : mig a.1 lo hi ≤ 8 := mig_le hl hh
    have rl : fret a.1 (mig a.1 lo hi) hi ≤ 8 := by
      by_cases q : mig a.1 lo hi < hi
      · rcases ret_spec a.1 q hh with ⟨y, _⟩ | ⟨y1, y2, y3, _⟩ <;> omega
      · unfold fret; rw [if_neg q]; omega
    rw [k_compact_34, if_neg (fun q => by rw [show (65 : Int32) = Int32.ofNat 65 from rfl, ofNat_lt (by omega) (by omega)] at q; omega), et, eu]
    unfold k_scannersDone
    rw [u9, t9, u10, u8, t8, e8, u7, t7, e7, aGo]
    by_cases w : mig a.1 lo hi < fret a.1 (mig a.1 lo hi) hi
    · rw [if_pos ((ofNat_lt (by omega) (by omega)).mpr w)]
      by_cases z : k = lim
      · rw [if_pos ((enc_inj (by omega) (by omega)).mpr z), if_neg (by decide), if_neg (by omega)]
        exact ⟨u, rfl, Ru⟩
      · rw [if_neg (show ¬ Int32.ofNat k = Int32.ofNat lim from fun q => z ((enc_inj (by omega) (by omega)).mp q)), if_pos rfl, if_pos ⟨w, z⟩]
        obtain ⟨s1, s2, s3, s4, s5⟩ := scan hh w
        obtain ⟨v, ev, Rv, Fv⟩ := migrate_ok Ru (m := mig a.1 lo hi) (f := fret a.1 (mig a.1 lo hi) hi) (by omega) (by omega) s2 s3
        rw [ev, Option.bind_some, ofNat_succ, Fv.1 8 (by simp), u8, t8, e8, Fv.1 9 (by simp), u9, t9, Fv.1 10 (by simp), u10, ofNat_succ, ofNat_succ]
        have sub : Int32.ofNat (fret a.1 (mig a.1 lo hi) hi) - 1 = Int32.ofNat (fret a.1 (mig a.1 lo hi) hi - 1) := by
          have := ofNat_succ (fret a.1 (mig a.1 lo hi) hi - 1)
          rw [show fret a.1 (mig a.1 lo hi) hi - 1 + 1 = fret a.1 (mig a.1 lo hi) hi by omega] at this
          rw [← this]; simp
        rw [sub]
        have F0 : Fx [7, 8, 9, 10] [] [] [] v v := Fx.refl ..
        exact compact_loop n _ _ _ _ _ _ _ N (Rv.fx (((F0.sI (by simp)).sI (by simp)).sI (by simp))) (by omega) (by omega) (by omega) (by omega) hlim (by omega) (by omega) (by simp [gI_sI]) (by simp [gI_sI]) (by simp [gI_sI]) (by simp [gI_sI, Fv.1 7 (by simp), u7, t7, e7])
    · rw [if_neg (fun q => w ((ofNat_lt (by omega) (by omega)).mp q)), if_neg (by decide), if_neg (fun q => w q.1)]
      exact ⟨u, rfl, Ru⟩
def lim64 (v : Int32) : Nat := if v < 0 then 0 else if 64 < v then 64 else v.toNatClampNeg
theorem lim64_ok (v : Int32) : k_clampInt v 0 64 = Int32.ofNat (lim64 v) ∧ lim64 v ≤ 64 := by
  unfold k_clampInt lim64
  by_cases q : v < 0
  · rw [if_pos q, if_pos q]; exact ⟨rfl, by omega⟩
  · rw [if_neg q, if_neg q]
    by_cases w : 64 < v
    · rw [if_pos w, if_pos w]; exact ⟨rfl, by omega⟩
    · rw [if_neg w, if_neg w]
      obtain ⟨e, l⟩ := eq_ofNat q
      refine ⟨e, ?_⟩
      rw [e, show (64 : Int32) = Int32.ofNat 64 from rfl, ofNat_lt (by omega) l] at w
      omega
def aCompact (a : Abs) (v : Int32) : Int32 × Abs := (Int32.ofNat (aGo 9 a 0 7 0 (lim64 v)).1, (aGo 9 a 0 7 0 (lim64 v)).2)
theorem compact_ok {s : S} {a : Abs} (h : R s a) (v : Int32) : ∃ s', k_compact v s = some ((aCompact a v).1, s') ∧ R s' (aCompact a v).2 := by
  unfold k_compact aCompact
  obtain ⟨c1, c2⟩ := lim64_ok v
  have g0 : gI s 0 = 8 := by obtain ⟨c, ls, G, _⟩ := h; exact G.1
  have F0 : Fx [7, 8, 9, 10] [] [] [] s s := Fx.refl ..
  rw [c1, g0]
  exact compact_loop 9 _ a 0 7 0 (lim64 v) 0 BIG (h.fx ((((F0.sI (by simp)).sI (by simp)).sI (by simp)).sI (by simp))) (by omega) (by omega) (by omega) (by omega) c2 (by omega) (by unfold BIG; omega) (by simp [gI_sI]) (by simp [gI_sI]) (by simp [gI_sI]) (by simp [gI_sI])
theorem R.g0 {s : S} {a : Abs} (h : R s a) : gI s 0 = 8 := by obtain ⟨c, ls, G, _⟩ := h; exact G.1
def aState (a : Abs) (v : Int32) : Int32 := match aFrame v with
  | none => -1
  | some f => Int32.ofNat (a.1 f)
theorem frameState_ok {s : S} {a : Abs} (h : R s a) (v : Int32) : k_frameState v s = some (aState a v) := by
  unfold k_frameState aState
  rcases frame_cases h.g0 v with ⟨n1, n2⟩ | ⟨f, hf, ev, n1, n2⟩
  · rw [n1, n2, if_pos rfl]
  · obtain ⟨c, ls, G, RS', _⟩ := h
    rw [n1, n2, if_neg (by decide), ev, ix_ofNat _ (by omega), (RS'.1 f hf).2, Option.bind_some]
def aValue (a : Abs) (v : Int32) : Int32 := match aFrame v with
  | none => 0
  | some f => a.2.1 f
theorem frameValue_ok {s : S} {a : Abs} (h : R s a) (v : Int32) : k_frameValue v s = some (aValue a v) := by
  unfold k_frameValue aValue
  rcases frame_cases h.g0 v with ⟨n1, n2⟩ | ⟨f, hf, ev, n1, n2⟩
  · rw [n1, n2, if_pos rfl]
  · obtain ⟨c, ls, G, RS', V, C, P, M, K⟩ := h
    obtain ⟨D, q1, q2, q3, q4, q5⟩ := id K
    obtain ⟨z1, z2⟩ := RS'.1 f hf
    rw [n1, n2, if_neg (by decide), ev, ix_ofNat _ (by omega), z2, Option.bind_some]
    dsimp only
    by_cases e : a.1 f = 0
    · rw [e, if_pos (show Int32.ofNat 0 = 0 from rfl), q5 f hf (Or.inl e)]
    rw [if_neg (show ¬ Int32.ofNat (a.1 f) = 0 from fun q => e ((enc_inj (by omega) (by omega)).mp q))]
    by_cases e3 : a.1 f = 3
    · rw [e3, if_pos (show Int32.ofNat 3 = 3 from rfl), q5 f hf (Or.inr e3)]
    rw [if_neg (show ¬ Int32.ofNat (a.1 f) = 3 from fun q => e3 ((enc_inj (by omega) (by omega)).mp q)), ix_ofNat _ (by omega), V f hf, Option.bind_some]
def aCnt (a : Abs) (f : Nat) : Nat := (List.range 64).countP fun x => decide (a.2.2 x = some f)
theorem nodup_filter (p : Nat → Bool) : ∀ {l : List Nat}, l.Nodup → (l.filter p).Nodup := fun h => List.Nodup.sublist List.filter_sublist h
theorem len_count {l : List Nat} (nd : l.Nodup) {n : Nat} {p : Nat → Bool} (h : ∀ x, x ∈ l ↔ (x < n ∧ p x = true)) : l.length = (List.range n).countP p := by
  rw [List.countP_eq_length_filter]
  apply List.Perm.length_eq
  refine (List.perm_ext_iff_of_nodup nd (nodup_filter _ List.nodup_range)).mpr fun x => ?_
  rw [h x, List.mem_filter, List.mem_range]
theorem con_cnt {a : Abs} {c : Nat → Nat} {ls : Nat → List Nat} (K : Con a c ls) {f : Nat} (hf : f < 8) : c f = aCnt a f := by
  obtain ⟨D, q1, q2, q3, q4, q5⟩ := id K
  rw [q1 f hf]
  refine len_count (D.1 f hf) fun x => ?_
  rw [q2 f x hf, decide_eq_true_eq]
  exact ⟨fun e => ⟨(q3 x f e).2.1, e⟩, fun e => e.2⟩
def aCount (a : Abs) (v : Int32) : Int32 := match aFrame v with
  | none => 0
  | some f => Int32.ofNat (aCnt a f)
theorem mapCount_ok {s : S} {a : Abs} (h : R s a) (v : Int32) : k_mapCount v s = some (aCount a v) := by
  unfold k_mapCount aCount
  rcases frame_cases h.g0 v with ⟨n1, n2⟩ | ⟨f, hf, ev, n1, n2⟩
  · rw [n1, n2, if_pos rfl]
  · obtain ⟨c, ls, G, RS', V, C, P, M, K⟩ := h
    rw [n1, n2, if_neg (by decide), ev, ix_ofNat _ (by omega), C f hf, Option.bind_some, con_cnt K hf]
def aFree (a : Abs) : Nat := (List.range 8).countP fun f => decide (a.1 f = 0)
theorem freeCount_ok {s : S} {a : Abs} (h : R s a) : k_freeCount s = Int32.ofNat (aFree a) := by
  obtain ⟨c, ls, G, RS', V, C, P, M, K⟩ := h
  obtain ⟨t1, ⟨m, hm, em, bm⟩, t3, t4⟩ := RS'
  unfold k_freeCount aFree
  rw [em, w_cnt ⟨m, hm⟩]
  congr 1
  apply List.countP_congr
  intro f hf
  rw [bm f (List.mem_range.mp hf)]
def a0 : Abs := (fun _ => 0, fun _ => 0, fun _ => none)
theorem rep_get {A : Type} {n i : Nat} (x : A) (h : i < n) : (rep n x)[i]? = some x := by unfold rep; rw [List.getElem?_replicate, if_pos h]
theorem init_R : ∃ s, k_init 8 4 = some s ∧ R s a0 := by
  obtain ⟨t, e, r0, r1, r2, r3, r4, r5, r6, A0, A1, A2, A3, A4, A5, A6, B7⟩ := own_reset (N := 8) (P := 4) (sI (sI (sB (sA (sA (sA (sA (sA (sA (sA s0 0 (rep 64 0)) 1 (rep 64 0)) 2 (rep 64 0)) 3 (rep 64 0)) 4 (rep 64 0)) 5 (rep 64 0)) 6 (rep 64 0)) 7 (rep 7 0)) 0 (k_clampInt 8 (8 : Int32) (64 : Int32))) 1 (k_clampInt 4 (4 : Int32) (16 : Int32))) (by simp [gI_sI]; decide) (by simp [gI_sI]; decide) (by
    intro f hf
    simp only [gA_sI, gA_sB, gA_sA]
    match f, hf with
    | 0, _ => exact rep_length 64 _
    | 1, _ => exact rep_length 64 _
    | 2, _ => exact rep_length 64 _
    | 3, _ => exact rep_length 64 _
    | 4, _ => exact rep_length 64 _
    | 5, _ => exact rep_length 64 _
    | 6, _ => exact rep_length 64 _) (by simp only [gB_sI, gB_sB]; exact rep_length 7 _)
  refine ⟨t, ?_, fun _ => 0, fun _ => [], ⟨r0, r1, ?_, ?_, ?_, ?_, ?_, ?_, ?_, B7, Or.inr r6⟩, ⟨fun f hf => ⟨by show 0 ≤ 3; omega, ?_⟩, ⟨255, by omega, ?_, fun f hf => ?_⟩, ⟨0, by omega, by rw [r3]; rfl, fun f hf => ?_⟩, fun q => ?_⟩, fun f hf => ?_, fun f hf => ?_, fun f hf => ?_, fun f hf => ⟨-1, ?_, ?_⟩, ⟨fun f hf => List.nodup_nil, fun f g x _ _ q _ => nomatch q⟩, fun f hf => rfl, fun f x hf => ⟨fun q => (nomatch q), fun q => (nomatch q)⟩, fun x f q => (nomatch q), fun f hf => ?_, fun f hf q => rfl⟩
  · unfold k_init; rw [e]; rfl
  · rw [A0]; simp [rep]
  · rw [A1]; simp [rep]
  · rw [A2]; simp [rep]
  · rw [A3]; simp [rep]
  · rw [A4]; simp [rep]
  · rw [A5]; simp [rep]
  · rw [A6]; simp [rep]
  · rw [A0, rep_get _ (by omega)]; rfl
  · rw [r2]; decide
  · match f, hf with | 0, _ => decide | 1, _ => decide | 2, _ => decide | 3, _ => decide | 4, _ => decide | 5, _ => decide | 6, _ => decide | 7, _ => decide
  · rw [Nat.zero_testBit]; rfl
  · rw [r6] at q; cases q
  · rw [A1, rep_get _ (by omega)]; rfl
  · rw [A2, rep_get _ (by omega)]; rfl
  · rw [A3, rep_get _ (by omega)]; rfl
  · rw [A4, rep_get _ (by omega)]
  · rfl
  · simp [a0]
theorem R.st3 {s : S} {a : Abs} (h : R s a) {f : Nat} (hf : f < 8) : a.1 f ≤ 3 := by
  obtain ⟨c, ls, G, RS', _⟩ := h; exact (RS'.1 f hf).1
theorem R.slot {s : S} {a : Abs} (h : R s a) {x f : Nat} (e : a.2.2 x = some f) : f < 8 ∧ x < 64 ∧ x % 16 < 4 := by
  obtain ⟨c, ls, G, RS', V, C, P, M, K⟩ := h
  exact K.2.2.2.1 x f e
theorem R.pos {s : S} {a : Abs} (h : R s a) {x f : Nat} (e : a.2.2 x = some f) : a.1 f = 1 ∨ a.1 f = 2 := by
  have hf := (h.slot e).1
  obtain ⟨c, ls, G, RS', V, C, P, M, D, q1, q2, q3, q4, q5⟩ := h
  refine (q4 f hf).mp ?_
  rw [q1 f hf]
  exact List.length_pos_of_mem ((q2 f x hf).mpr e)
theorem pcode_eq {o : Option Nat} (h : ∀ f, o = some f → f < 8) {t : Nat} (ht : t < 8) : pcode o = Int32.ofNat t ↔ o = some t := by
  cases o with
  | none =>
    refine ⟨fun q => ?_, fun q => nomatch q⟩
    exact absurd (show (-1 : Int32) < 0 by decide) (by rw [show (-1 : Int32) = Int32.ofNat t from q]; exact ofNat_nonneg (by omega))
  | some f =>
    have := h f rfl
    show Int32.ofNat f = Int32.ofNat t ↔ _
    rw [enc_inj (by omega) (by omega)]; simp
theorem pcode_neg {o : Option Nat} (h : ∀ f, o = some f → f < 8) : pcode o < 0 ↔ o = none := by
  cases o with
  | none => exact ⟨fun _ => rfl, fun _ => (by decide)⟩
  | some f =>
    have := h f rfl
    exact ⟨fun q => absurd q (ofNat_nonneg (by omega)), fun q => nomatch q⟩
theorem pcode_inj {o p : Option Nat} (h : ∀ f, o = some f → f < 8) (k : ∀ f, p = some f → f < 8) : pcode o = pcode p ↔ o = p := by
  cases p with
  | none =>
    constructor
    · intro e
      exact (pcode_neg h).mp (by rw [e]; decide)
    · intro e; rw [e]
  | some t => exact pcode_eq h (k t rfl)
theorem countP_upd {A : Type} (g : Nat → A) (p : A → Bool) (f : Nat) (x : A) : ∀ n, f < n → (List.range n).countP (fun i => p (aupd g f x i)) + (if p (g f) then 1 else 0) = (List.range n).countP (fun i => p (g i)) + (if p x then 1 else 0)
  | 0, h => by omega
  | n + 1, h => by
    rw [List.range_succ, List.countP_append, List.countP_append, List.countP_cons, List.countP_cons, List.countP_nil, List.countP_nil]
    by_cases q : f = n
    · subst q
      have e : (List.range f).countP (fun i => p (aupd g f x i)) = (List.range f).countP (fun i => p (g i)) := by
        apply List.countP_congr
        intro i hi
        have := List.mem_range.mp hi
        unfold aupd
        rw [if_neg (by omega)]
      have e2 : aupd g f x f = x := by unfold aupd; rw [if_pos rfl]
      rw [e, e2]
      omega
    · have := countP_upd g p f x n (by omega)
      have e2 : aupd g f x n = g n := by unfold aupd; rw [if_neg (by omega)]
      rw [e2]
      omega
def pU (n : Nat) : Bool := decide (n = 1) || decide (n = 2)
def pR (n : Nat) : Bool := decide (n = 3)
def pP (n : Nat) : Bool := decide (n = 2)
def nU (a : Abs) : Nat := (List.range 8).countP fun f => pU (a.1 f)
def nR (a : Abs) : Nat := (List.range 8).countP fun f => pR (a.1 f)
def nP (a : Abs) : Nat := (List.range 8).countP fun f => pP (a.1 f)
def nPg (a : Abs) : Nat := (List.range 64).countP fun x => (a.2.2 x).isSome
/-- the four counts of a state -/
def Cs (a : Abs) (pg u r p : Nat) : Prop := nPg a = pg ∧ nU a = u ∧ nR a = r ∧ nP a = p
theorem Cs.st {st : Nat → Nat} {val val' : Nat → Int32} {pf : Nat → Option Nat} {pg u r p : Nat} (h : Cs (st, val, pf) pg u r p) {f x : Nat} (hf : f < 8) {u' r' p' : Nat} (e1 : u' + (if pU (st f) then 1 else 0) = u + (if pU x then 1 else 0)) (e2 : r' + (if pR (st f) then 1 else 0) = r + (if pR x then 1 else 0)) (e3 : p' + (if pP (st f) then 1 else 0) = p + (if pP x then 1 else 0)) : Cs (aupd st f x, val', pf) pg u' r' p' := by
  obtain ⟨h0, h1, h2, h3⟩ := h
  have k1 := countP_upd st pU f x 8 hf
  have k2 := countP_upd st pR f x 8 hf
  have k3 := countP_upd st pP f x 8 hf
  unfold nU at h1
  unfold nR at h2
  unfold nP at h3
  dsimp only at h1 h2 h3
  refine ⟨h0, ?_, ?_, ?_⟩
  · unfold nU; dsimp only; omega
  · unfold nR; dsimp only; omega
  · unfold nP; dsimp only; omega
def W (a : Abs) : Prop := ∀ x g, a.2.2 x = some g → g < 8 ∧ (a.1 g = 1 ∨ a.1 g = 2)
def Ren (a b : Abs) : Prop := (∀ x y, a.2.2 x = a.2.2 y ↔ b.2.2 x = b.2.2 y) ∧ (∀ x, a.2.2 x = none ↔ b.2.2 x = none) ∧ (∀ x f g, a.2.2 x = some f → b.2.2 x = some g → a.2.1 f = b.2.1 g) ∧ (∀ f, f < 8 → (a.1 f = 2 ↔ b.1 f = 2) ∧ (a.1 f = 3 ↔ b.1 f = 3) ∧ (a.1 f = 2 → a.2.1 f = b.2.1 f)) ∧ aFree a = aFree b
theorem Ren.refl (a : Abs) : Ren a a := ⟨fun _ _ => Iff.rfl, fun _ => Iff.rfl, fun x f g h k => by rw [h] at k; cases k; rfl, fun _ _ => ⟨Iff.rfl, Iff.rfl, fun _ => rfl⟩, rfl⟩
theorem Ren.trans {a b c : Abs} (h : Ren a b) (k : Ren b c) : Ren a c := by
  obtain ⟨h1, h2, h3, h4, h5⟩ := h
  obtain ⟨k1, k2, k3, k4, k5⟩ := k
  refine ⟨fun x y => (h1 x y).trans (k1 x y), fun x => (h2 x).trans (k2 x), fun x f g p q => ?_, fun f hf => ?_, h5.trans k5⟩
  · cases e : b.2.2 x with
    | none => have := (h2 x).mpr e; rw [p] at this; cases this
    | some m => exact (h3 x f m p e).trans (k3 x m g e q)
  · obtain ⟨p1, p2, p3⟩ := h4 f hf
    obtain ⟨q1, q2, q3⟩ := k4 f hf
    exact ⟨p1.trans q1, p2.trans q2, fun z => (p3 z).trans (q3 (p1.mp z))⟩
theorem W.step {a : Abs} (h : W a) {m f : Nat} (hm : m < 8) (hf : f < 8) (sm : a.1 m = 1) (sf : a.1 f = 0) : W (aStep a m f) := by
  have ne : m ≠ f := fun e => by rw [e, sf] at sm; cases sm
  intro x g e
  change (if a.2.2 x = some m then some f else a.2.2 x) = some g at e
  show g < 8 ∧ ((aupd (aupd a.1 f 1) m 0) g = 1 ∨ (aupd (aupd a.1 f 1) m 0) g = 2)
  by_cases q : a.2.2 x = some m
  · rw [if_pos q] at e
    cases e
    refine ⟨hf, Or.inl ?_⟩
    unfold aupd; rw [if_neg (fun z => ne z.symm), if_pos rfl]
  · rw [if_neg q] at e
    obtain ⟨h1, h2⟩ := h x g e
    refine ⟨h1, ?_⟩
    unfold aupd
    rw [if_neg (fun z => q (by rw [e, z])), if_neg (fun z => by rw [z] at h2; omega)]
    exact h2
theorem ren_step {a : Abs} (h : W a) {m f : Nat} (hm : m < 8) (hf : f < 8) (sm : a.1 m = 1) (sf : a.1 f = 0) : Ren a (aStep a m f) := by
  have ne : m ≠ f := fun e => by rw [e, sf] at sm; cases sm
  have nf : ∀ x, a.2.2 x ≠ some f := fun x e => by have := (h x f e).2; omega
  have P : ∀ x, (aStep a m f).2.2 x = if a.2.2 x = some m then some f else a.2.2 x := fun x => rfl
  refine ⟨fun x y => ?_, fun x => ?_, fun x g k p q => ?_, fun g hg => ?_, ?_⟩
  · rw [P, P]
    by_cases q : a.2.2 x = some m
    · by_cases w : a.2.2 y = some m
      · simp [q, w]
      · rw [if_pos q, if_neg w, q]
        exact ⟨fun z => absurd z.symm w, fun z => absurd z.symm (nf y)⟩
    · by_cases w : a.2.2 y = some m
      · rw [if_neg q, if_pos w, w]
        exact ⟨fun z => absurd z q, fun z => absurd z (nf x)⟩
      · rw [if_neg q, if_neg w]
  · rw [P]
    by_cases q : a.2.2 x = some m
    · rw [if_pos q, q]; simp
    · rw [if_neg q]
  · rw [P] at q
    show a.2.1 g = (aupd (aupd a.2.1 f (a.2.1 m)) m 0) k
    unfold aupd
    by_cases w : a.2.2 x = some m
    · rw [if_pos w] at q
      cases q
      rw [w] at p
      cases p
      rw [if_neg (fun z => ne z.symm), if_pos rfl]
    · rw [if_neg w, p] at q
      cases q
      rw [if_neg (fun z => w (by rw [p, z])), if_neg (fun z => nf x (by rw [p, z]))]
  · show (a.1 g = 2 ↔ (aupd (aupd a.1 f 1) m 0) g = 2) ∧ (a.1 g = 3 ↔ (aupd (aupd a.1 f 1) m 0) g = 3) ∧ (a.1 g = 2 → a.2.1 g = (aupd (aupd a.2.1 f (a.2.1 m)) m 0) g)
    unfold aupd
    by_cases w : g = m
    · rw [if_pos w, w, sm]; simp
    · rw [if_neg w, if_neg w]
      by_cases z : g = f
      · rw [if_pos z, z, sf]; simp
      · rw [if_neg z, if_neg z]; exact ⟨Iff.rfl, Iff.rfl, fun _ => rfl⟩
  · have k1 := countP_upd a.1 (fun n => decide (n = 0)) f 1 8 hf
    have k2 := countP_upd (aupd a.1 f 1) (fun n => decide (n = 0)) m 0 8 hm
    have sm' : (aupd a.1 f 1) m = 1 := by unfold aupd; rw [if_neg ne]; exact sm
    rw [sf] at k1
    rw [sm'] at k2
    simp at k1 k2
    show (List.range 8).countP (fun i => decide (a.1 i = 0)) = (List.range 8).countP (fun i => decide ((aupd (aupd a.1 f 1) m 0) i = 0))
    omega
theorem ren_go : ∀ n (a : Abs) lo hi k lim, hi ≤ 7 → W a → Ren a (aGo n a lo hi k lim).2
  | 0, a, lo, hi, k, lim, hh, h => Ren.refl a
  | n + 1, a, lo, hi, k, lim, hh, h => by
    rw [aGo]
    by_cases w : mig a.1 lo hi < fret a.1 (mig a.1 lo hi) hi ∧ k ≠ lim
    · rw [if_pos w]
      obtain ⟨s1, s2, s3, s4, s5⟩ := scan hh w.1
      exact (ren_step h (by omega) (by omega) s2 s3).trans (ren_go n _ _ _ _ _ (by omega) (h.step (by omega) (by omega) s2 s3))
    · rw [if_neg w]; exact Ren.refl a
theorem ren_cnt {a b : Abs} (h : Ren a b) {x f g : Nat} (p : a.2.2 x = some f) (q : b.2.2 x = some g) : aCnt a f = aCnt b g := by
  unfold aCnt
  apply List.countP_congr
  intro y _
  rw [decide_eq_true_eq, decide_eq_true_eq, ← p, ← q]
  exact h.1 y x
/-- the full pass, one move at a time -/
def It : Nat → Abs → Nat × Abs
  | 0, a => (0, a)
  | n + 1, a => if mig a.1 0 7 < fret a.1 (mig a.1 0 7) 7 then ((It n (aStep a (mig a.1 0 7) (fret a.1 (mig a.1 0 7) 7))).1 + 1, (It n (aStep a (mig a.1 0 7) (fret a.1 (mig a.1 0 7) 7))).2) else (0, a)
theorem mig_uniq {st : Nat → Nat} {lo hi m : Nat} (hh : hi ≤ 8) (h1 : lo ≤ m) (h2 : m < hi) (h3 : st m = 1) (h4 : ∀ g, lo ≤ g → g < m → st g ≠ 1) : mig st lo hi = m := by
  rcases mig_spec st (show lo < hi by omega) hh with ⟨y, y'⟩ | ⟨y1, y2, y3, y4⟩
  · exact absurd h3 (y' m h1 h2)
  · rcases Nat.lt_trichotomy (mig st lo hi) m with w | w | w
    · exact absurd y3 (h4 _ y1 w)
    · exact w
    · exact absurd h3 (y4 m h1 w)
theorem ret_uniq {st : Nat → Nat} {lo hi f : Nat} (hh : hi ≤ 7) (h1 : lo < f) (h2 : f ≤ hi) (h3 : st f = 0) (h4 : ∀ g, f < g → g ≤ hi → st g ≠ 0) : fret st lo hi = f := by
  rcases ret_spec st (show lo < hi by omega) hh with ⟨y, y'⟩ | ⟨y1, y2, y3, y4⟩
  · exact absurd h3 (y' f h1 h2)
  · rcases Nat.lt_trichotomy (fret st lo hi) f with w | w | w
    · exact absurd h3 (y4 f w h2)
    · exact w
    · exact absurd y3 (h4 _ w y2)
theorem scan_spec {st : Nat → Nat} {lo hi : Nat} (hh : hi ≤ 7) (w : mig st lo hi < fret st (mig st lo hi) hi) : (∀ g, lo ≤ g → g < mig st lo hi → st g ≠ 1) ∧ (∀ g, fret st (mig st lo hi) hi < g → g ≤ hi → st g ≠ 0) := by
  obtain ⟨s1, s2, s3, s4, s5⟩ := scan hh w
  constructor
  · rcases mig_spec st s5 (by omega) with ⟨y, y'⟩ | ⟨y1, y2, y3, y4⟩
    · intro g h1 h2; exact y' g h1 (by omega)
    · exact y4
  · rcases ret_spec st (show mig st lo hi < hi by omega) hh with ⟨y, y'⟩ | ⟨y1, y2, y3, y4⟩
    · omega
    · exact y4
theorem scan_same {st : Nat → Nat} {lo hi : Nat} (hh : hi ≤ 7) (n1 : ∀ g, g < lo → st g ≠ 1) (n0 : ∀ g, hi < g → g ≤ 7 → st g ≠ 0) : (mig st lo hi < fret st (mig st lo hi) hi ↔ mig st 0 7 < fret st (mig st 0 7) 7) ∧ (mig st lo hi < fret st (mig st lo hi) hi → mig st 0 7 = mig st lo hi ∧ fret st (mig st lo hi) 7 = fret st (mig st lo hi) hi) := by
  have A : mig st lo hi < fret st (mig st lo hi) hi → mig st 0 7 = mig st lo hi ∧ fret st (mig st lo hi) 7 = fret st (mig st lo hi) hi := fun w => by
    obtain ⟨s1, s2, s3, s4, s5⟩ := scan hh w
    obtain ⟨c1, c2⟩ := scan_spec hh w
    refine ⟨mig_uniq (by omega) (by omega) (by omega) s2 ?_, ret_uniq (by omega) w (by omega) s3 ?_⟩
    · intro g _ h2
      rcases Nat.lt_or_ge g lo with z | z
      · exact n1 g z
      · exact c1 g z h2
    · intro g h1 h2
      rcases Nat.lt_or_ge hi g with z | z
      · exact n0 g z h2
      · exact c2 g h1 z
  refine ⟨⟨fun w => ?_, fun w => ?_⟩, A⟩
  · obtain ⟨a1, a2⟩ := A w
    rw [a1, a2]; exact w
  · obtain ⟨s1, s2, s3, s4, s5⟩ := scan (Nat.le_refl 7) w
    obtain ⟨c1, c2⟩ := scan_spec (Nat.le_refl 7) w
    have l1 : lo ≤ mig st 0 7 := by
      rcases Nat.lt_or_ge (mig st 0 7) lo with z | z
      · exact absurd s2 (n1 _ z)
      · exact z
    have l2 : fret st (mig st 0 7) 7 ≤ hi := by
      rcases Nat.lt_or_ge hi (fret st (mig st 0 7) 7) with z | z
      · exact absurd s3 (n0 _ z s4)
      · exact z
    have e1 : mig st lo hi = mig st 0 7 := mig_uniq (by omega) l1 (by omega) s2 (fun g h1 h2 => c1 g (by omega) h2)
    have e2 : fret st (mig st lo hi) hi = fret st (mig st 0 7) 7 := by
      rw [e1]
      exact ret_uniq hh w l2 s3 (fun g h1 h2 => c2 g h1 (by omega))
    rw [e2, e1]; exact w
theorem go_it : ∀ n (a : Abs) lo hi k, hi ≤ 7 → k ≤ lo → lo ≤ 8 → (∀ g, g < lo → a.1 g ≠ 1) → (∀ g, hi < g → g ≤ 7 → a.1 g ≠ 0) → aGo n a lo hi k 64 = (k + (It n a).1, (It n a).2)
  | 0, a, lo, hi, k, _, _, _, _, _ => rfl
  | n + 1, a, lo, hi, k, hh, hk, hl, n1, n0 => by
    rw [aGo, It]
    obtain ⟨q1, q2⟩ := scan_same hh n1 n0
    by_cases w : mig a.1 lo hi < fret a.1 (mig a.1 lo hi) hi
    · obtain ⟨e1, e2⟩ := q2 w
      obtain ⟨s1, s2, s3, s4, s5⟩ := scan hh w
      obtain ⟨c1, c2⟩ := scan_spec hh w
      rw [if_pos ⟨w, by omega⟩, if_pos (q1.mp w), e1, e2]
      rw [go_it n _ _ _ _ (by omega) (by omega) (by omega) ?_ ?_]
      · simp only [Prod.mk.injEq, and_true]; omega
      · intro g hg
        show (aupd (aupd a.1 _ 1) _ 0) g ≠ 1
        unfold aupd
        by_cases z : g = mig a.1 lo hi
        · rw [if_pos z]; omega
        · rw [if_neg z, if_neg (by omega)]
          rcases Nat.lt_or_ge g lo with y | y
          · exact n1 g y
          · exact c1 g y (by omega)
      · intro g h1 h2
        show (aupd (aupd a.1 _ 1) _ 0) g ≠ 0
        unfold aupd
        rw [if_neg (by omega)]
        by_cases z : g = fret a.1 (mig a.1 lo hi) hi
        · rw [if_pos z]; omega
        · rw [if_neg z]
          rcases Nat.lt_or_ge hi g with y | y
          · exact n0 g y h2
          · exact c2 g (by omega) y
    · rw [if_neg (fun z => w z.1), if_neg (fun z => w (q1.mpr z))]
      simp
theorem go_fuel : ∀ n m (a : Abs) lo hi k lim, hi ≤ 7 → lo ≤ 8 → 9 ≤ lo + n → 9 ≤ lo + m → aGo n a lo hi k lim = aGo m a lo hi k lim
  | 0, m, a, lo, hi, k, lim, _, _, _, _ => by omega
  | n + 1, 0, a, lo, hi, k, lim, _, _, _, _ => by omega
  | n + 1, m + 1, a, lo, hi, k, lim, hh, hl, hn, hm => by
    rw [aGo, aGo]
    by_cases w : mig a.1 lo hi < fret a.1 (mig a.1 lo hi) hi ∧ k ≠ lim
    · rw [if_pos w, if_pos w]
      obtain ⟨s1, s2, s3, s4, s5⟩ := scan hh w.1
      exact go_fuel n m _ _ _ _ _ (by omega) (by omega) (by omega) (by omega)
    · rw [if_neg w, if_neg w]
theorem full_it (a : Abs) : aGo 9 a 0 7 0 64 = It 64 a := by
  rw [go_fuel 9 64 a 0 7 0 64 (by omega) (by omega) (by omega) (by omega), go_it 64 a 0 7 0 (by omega) (by omega) (by omega) (fun g h => by omega) (fun g h1 h2 => by omega)]
  simp
theorem one_it (a : Abs) : aGo 9 a 0 7 0 1 = if mig a.1 0 7 < fret a.1 (mig a.1 0 7) 7 then (1, aStep a (mig a.1 0 7) (fret a.1 (mig a.1 0 7) 7)) else (0, a) := by
  rw [aGo]
  by_cases w : mig a.1 0 7 < fret a.1 (mig a.1 0 7) 7
  · rw [if_pos ⟨w, by omega⟩, if_pos w, aGo, if_neg (fun z => z.2 rfl)]
  · rw [if_neg (fun z => w z.1), if_neg w]
theorem it_stop {a : Abs} (w : ¬ mig a.1 0 7 < fret a.1 (mig a.1 0 7) 7) : ∀ n, It n a = (0, a)
  | 0 => rfl
  | n + 1 => by rw [It, if_neg w]
theorem it_le : ∀ n a, (It n a).1 ≤ n
  | 0, a => Nat.le_refl 0
  | n + 1, a => by
    rw [It]
    by_cases w : mig a.1 0 7 < fret a.1 (mig a.1 0 7) 7
    · rw [if_pos w]; have := it_le n (aStep a (mig a.1 0 7) (fret a.1 (mig a.1 0 7) 7)); dsimp only; omega
    · rw [if_neg w]; omega
theorem step_ok {s t : S} {a : Abs} (h : R s a) (k : R t a) (op x1 x2 x3 : Int32) : ∃ s' t' a', h_step op x1 x2 x3 s = some s' ∧ h_step op x1 x2 x3 t = some t' ∧ R s' a' ∧ R t' a' := by
  unfold h_step
  by_cases q0 : op = 0
  · obtain ⟨u, w, r⟩ := mapNew_ok h ((x1 &&& (7 : Int32)) % (5 : Int32)) ((x2 &&& (7 : Int32)) % (5 : Int32)) x3
    obtain ⟨u', w', r'⟩ := mapNew_ok k ((x1 &&& (7 : Int32)) % (5 : Int32)) ((x2 &&& (7 : Int32)) % (5 : Int32)) x3
    rw [if_pos q0, if_pos q0, w, w', Option.bind_some, Option.bind_some]; exact ⟨_, _, _, rfl, rfl, r, r'⟩
  rw [if_neg q0, if_neg q0]
  by_cases q0 : op = 1
  · obtain ⟨u, w, r⟩ := share_ok h ((x1 &&& (7 : Int32)) % (5 : Int32)) ((x2 &&& (7 : Int32)) % (5 : Int32)) (x3 &&& (3 : Int32)) ((x3 >>> ((2 : Int32) &&& 31)) &&& (3 : Int32))
    obtain ⟨u', w', r'⟩ := share_ok k ((x1 &&& (7 : Int32)) % (5 : Int32)) ((x2 &&& (7 : Int32)) % (5 : Int32)) (x3 &&& (3 : Int32)) ((x3 >>> ((2 : Int32) &&& 31)) &&& (3 : Int32))
    rw [if_pos q0, if_pos q0, w, w', Option.bind_some, Option.bind_some]; exact ⟨_, _, _, rfl, rfl, r, r'⟩
  rw [if_neg q0, if_neg q0]
  by_cases q0 : op = 2
  · obtain ⟨u, w, r⟩ := unmap_ok h ((x1 &&& (7 : Int32)) % (5 : Int32)) ((x2 &&& (7 : Int32)) % (5 : Int32))
    obtain ⟨u', w', r'⟩ := unmap_ok k ((x1 &&& (7 : Int32)) % (5 : Int32)) ((x2 &&& (7 : Int32)) % (5 : Int32))
    rw [if_pos q0, if_pos q0, w, w', Option.bind_some, Option.bind_some]; exact ⟨_, _, _, rfl, rfl, r, r'⟩
  rw [if_neg q0, if_neg q0]
  by_cases q0 : op = 3
  · obtain ⟨u, w, r⟩ := write_ok h ((x1 &&& (7 : Int32)) % (5 : Int32)) ((x2 &&& (7 : Int32)) % (5 : Int32)) x3
    obtain ⟨u', w', r'⟩ := write_ok k ((x1 &&& (7 : Int32)) % (5 : Int32)) ((x2 &&& (7 : Int32)) % (5 : Int32)) x3
    rw [if_pos q0, if_pos q0, w, w', Option.bind_some, Option.bind_some]; exact ⟨_, _, _, rfl, rfl, r, r'⟩
  rw [if_neg q0, if_neg q0]
  by_cases q0 : op = 4
  · obtain ⟨u, w, r⟩ := pin_ok h ((x1 &&& (15 : Int32)) % (9 : Int32))
    obtain ⟨u', w', r'⟩ := pin_ok k ((x1 &&& (15 : Int32)) % (9 : Int32))
    rw [if_pos q0, if_pos q0, w, w', Option.bind_some, Option.bind_some]; exact ⟨_, _, _, rfl, rfl, r, r'⟩
  rw [if_neg q0, if_neg q0]
  by_cases q0 : op = 5
  · obtain ⟨u, w, r⟩ := unpin_ok h ((x1 &&& (15 : Int32)) % (9 : Int32))
    obtain ⟨u', w', r'⟩ := unpin_ok k ((x1 &&& (15 : Int32)) % (9 : Int32))
    rw [if_pos q0, if_pos q0, w, w', Option.bind_some, Option.bind_some]; exact ⟨_, _, _, rfl, rfl, r, r'⟩
  rw [if_neg q0, if_neg q0]
  by_cases q0 : op = 6
  · obtain ⟨u, w, r⟩ := alloc_ok h (x1 &&& (3 : Int32))
    obtain ⟨u', w', r'⟩ := alloc_ok k (x1 &&& (3 : Int32))
    rw [if_pos q0, if_pos q0, w, w', Option.bind_some, Option.bind_some]; exact ⟨_, _, _, rfl, rfl, r, r'⟩
  rw [if_neg q0, if_neg q0]
  by_cases q0 : op = 7
  · obtain ⟨u, w, r⟩ := release_ok h ((x1 &&& (15 : Int32)) % (9 : Int32))
    obtain ⟨u', w', r'⟩ := release_ok k ((x1 &&& (15 : Int32)) % (9 : Int32))
    rw [if_pos q0, if_pos q0, w, w', Option.bind_some, Option.bind_some]; exact ⟨_, _, _, rfl, rfl, r, r'⟩
  rw [if_neg q0, if_neg q0]
  obtain ⟨u, w, r⟩ := compact_ok h ((x1 &&& (7 : Int32)) - (1 : Int32))
  obtain ⟨u', w', r'⟩ := compact_ok k ((x1 &&& (7 : Int32)) - (1 : Int32))
  rw [w, w', Option.bind_some, Option.bind_some]; exact ⟨_, _, _, rfl, rfl, r, r'⟩
theorem end_slots {s t : S} {a : Abs} (h : R s a) (k : R t a) (q : List Int32) : ∀ m j N, j + m = 16 → m < N → law_528 N (Int32.ofNat j) q s t = some (1, s, t)
  | _, _, 0, _, h => by omega
  | 0, j, N + 1, hj, _ => by
    have : j = 16 := by omega
    subst this
    rw [law_528, if_neg (by decide)]
  | m + 1, j, N + 1, hj, hN => by
    rw [law_528, if_pos ((lt_lit (m := 16) (by omega) (by decide)).mpr (by omega)), frameOf_ok h, frameOf_ok k, Option.bind_some, Option.bind_some, if_pos rfl, ofNat_succ]
    exact end_slots h k q m (j + 1) N (by omega) (by omega)
theorem end_frames {s t : S} {a : Abs} (h : R s a) (k : R t a) (q : List Int32) : ∀ m j N, j + m = 8 → m < N → law_463 N (Int32.ofNat j) q s t = some (1, s, t)
  | _, _, 0, _, h => by omega
  | 0, j, N + 1, hj, _ => by
    have : j = 8 := by omega
    subst this
    rw [law_463, if_neg (by decide), law_525, show (0 : Int32) = Int32.ofNat 0 from rfl]
    exact end_slots h k q 16 0 BIG (by omega) (by unfold BIG; omega)
  | m + 1, j, N + 1, hj, hN => by
    rw [law_463, if_pos ((lt_lit (m := 8) (by omega) (by decide)).mpr (by omega)), frameState_ok h, frameState_ok k, Option.bind_some, Option.bind_some, if_pos rfl, frameValue_ok h, frameValue_ok k, Option.bind_some, Option.bind_some, if_pos rfl, mapCount_ok h, mapCount_ok k, Option.bind_some, Option.bind_some, if_pos rfl, ofNat_succ]
    exact end_frames h k q m (j + 1) N (by omega) (by omega)
theorem small_loop {s : S} {b : Abs} (h : R s b) {B : Nat} (q : List Int32) : ∀ m j c N t a, j + m = 64 → m < N → R t a → (It m a).2 = b → c + (It m a).1 = B → ∃ u, law_412 N (Int32.ofNat B) (Int32.ofNat c) (Int32.ofNat j) q s t = some (1, u)
  | _, _, _, 0, _, _, _, h, _, _, _ => by omega
  | 0, j, c, N + 1, t, a, hj, _, k, e1, e2 => by
    have : j = 64 := by omega
    subst this
    change a = b at e1
    change c + 0 = B at e2
    subst e1
    rw [law_412, if_neg (by decide), law_452, if_pos (show Int32.ofNat c = Int32.ofNat B by rw [← e2, Nat.add_zero]), show (0 : Int32) = Int32.ofNat 0 from rfl, end_frames h k q 8 0 BIG (by omega) (by unfold BIG; omega)]
    exact ⟨_, rfl⟩
  | m + 1, j, c, N + 1, t, a, hj, hN, k, e1, e2 => by
    obtain ⟨u, w, r⟩ := compact_ok k 1
    rw [law_412, if_pos ((lt_lit (m := 64) (by omega) (by decide)).mpr (by omega)), w, Option.bind_some]
    unfold aCompact at r ⊢
    rw [show lim64 1 = 1 by decide, one_it] at r ⊢
    rw [It] at e1 e2
    by_cases z : mig a.1 0 7 < fret a.1 (mig a.1 0 7) 7
    · rw [if_pos z] at r e1 e2 ⊢
      dsimp only at r e1 e2 ⊢
      rw [if_neg (by decide), if_neg (by decide), ofNat_add', ofNat_succ]
      exact small_loop h q m (j + 1) (c + 1) N u _ (by omega) (by omega) r e1 (by omega)
    · rw [if_neg z] at r e1 e2 ⊢
      dsimp only at r e1 e2 ⊢
      rw [if_neg (by decide), if_neg (by decide), ofNat_add', ofNat_succ]
      exact small_loop h q m (j + 1) (c + 0) N u _ (by omega) (by omega) r (by rw [it_stop z]; exact e1) (by rw [it_stop z]; exact e2)
theorem b_if {P Q : Prop} [Decidable P] [Decidable Q] (h : P ↔ Q) : (if P then (1 : Int32) else 0) = (if Q then (1 : Int32) else 0) := by
  by_cases p : P
  · rw [if_pos p, if_pos (h.mp p)]
  · rw [if_neg p, if_neg (fun q => p (h.mpr q))]
theorem pins_loop {s t : S} {a b : Abs} (h : R s b) (k : R t a) (rn : Ren a b) (eb : (It 64 a).2 = b) {B : Nat} (eB : (It 64 a).1 = B) (q : List Int32) : ∀ m j N, j + m = 8 → m < N → ∃ u, law_300 N (Int32.ofNat B) (Int32.ofNat j) q s t = some (1, u)
  | _, _, 0, _, h => by omega
  | 0, j, N + 1, hj, _ => by
    have : j = 8 := by omega
    subst this
    rw [law_300, if_neg (by decide), law_406]
    exact small_loop h q 64 0 0 BIG t a (by omega) (by unfold BIG; omega) k eb (by omega)
  | m + 1, j, N + 1, hj, hN => by
    have hj8 : j < 8 := by omega
    obtain ⟨p2, p3, pv⟩ := rn.2.2.2.1 j hj8
    have c1 := h.st3 hj8
    have c2 := k.st3 hj8
    obtain ⟨u, ih⟩ := pins_loop h k rn eb eB q m (j + 1) N (by omega) (by omega)
    refine ⟨u, ?_⟩
    have E : ∀ n y : Nat, n ≤ 3 → y ≤ 3 → (Int32.ofNat n = Int32.ofNat y ↔ n = y) := fun n y h1 h2 => enc_inj (by omega) (by omega)
    have s1 : aState b (Int32.ofNat j) = Int32.ofNat (b.1 j) := by unfold aState; rw [aFrame_nat hj8]
    have s2 : aState a (Int32.ofNat j) = Int32.ofNat (a.1 j) := by unfold aState; rw [aFrame_nat hj8]
    have v1 : aValue b (Int32.ofNat j) = b.2.1 j := by unfold aValue; rw [aFrame_nat hj8]
    have v2 : aValue a (Int32.ofNat j) = a.2.1 j := by unfold aValue; rw [aFrame_nat hj8]
    have i2 : Int32.ofNat (b.1 j) = 2 ↔ Int32.ofNat (a.1 j) = 2 := by
      rw [show (2 : Int32) = Int32.ofNat 2 from rfl, E _ _ c1 (by omega), E _ _ c2 (by omega)]; exact p2.symm
    have i3 : Int32.ofNat (b.1 j) = 3 ↔ Int32.ofNat (a.1 j) = 3 := by
      rw [show (3 : Int32) = Int32.ofNat 3 from rfl, E _ _ c1 (by omega), E _ _ c2 (by omega)]; exact p3.symm
    rw [law_300, if_pos ((lt_lit (m := 8) (by omega) (by decide)).mpr hj8), frameState_ok h, frameState_ok k, Option.bind_some, Option.bind_some, s1, s2]
    unfold law_334 law_345 law_361 law_372
    rw [if_pos (b_if i2), if_pos (b_if i3), frameValue_ok h, frameValue_ok k, Option.bind_some, Option.bind_some, v1, v2, ofNat_succ]
    by_cases z : Int32.ofNat (b.1 j) = 2
    · have : a.1 j = 2 := (E _ 2 c2 (by omega)).mp (i2.mp z)
      rw [if_pos z, if_pos (pv this).symm]
      exact ih
    · rw [if_neg z]; exact ih
theorem aFr_ren {a b : Abs} (rn : Ren a b) (p v p' v' : Int32) : (aFr a p v = aFr a p' v' ↔ aFr b p v = aFr b p' v') ∧ (aFr a p v = none ↔ aFr b p v = none) ∧ aRead a p v = aRead b p v := by
  unfold aRead
  unfold aFr
  cases e1 : aSlot p v with
  | none =>
    cases e2 : aSlot p' v' with
    | none => simp
    | some y =>
      dsimp only
      refine ⟨?_, by simp, rfl⟩
      have := rn.2.1 y
      constructor
      · intro z; exact (this.mp z.symm).symm
      · intro z; exact (this.mpr z.symm).symm
  | some x =>
    dsimp only
    refine ⟨?_, rn.2.1 x, ?_⟩
    · cases e2 : aSlot p' v' with
      | none => exact rn.2.1 x
      | some y => exact rn.1 x y
    · cases e3 : a.2.2 x with
      | none => rw [(rn.2.1 x).mp e3]
      | some f =>
        cases e4 : b.2.2 x with
        | none => have := (rn.2.1 x).mpr e4; rw [e3] at this; cases this
        | some g => exact rn.2.2.1 x f g e3 e4
theorem cnt_ren {s t : S} {a b : Abs} (h : R s b) (k : R t a) (rn : Ren a b) (p v : Int32) : aCount b (pcode (aFr b p v)) = aCount a (pcode (aFr a p v)) := by
  cases e3 : aFr a p v with
  | none => rw [((aFr_ren rn p v p v).2.1).mp e3]; rfl
  | some f =>
    cases e4 : aFr b p v with
    | none => have := ((aFr_ren rn p v p v).2.1).mpr e4; rw [e3] at this; cases this
    | some g =>
      have h1 := aFr_lt h e4
      have h2 := aFr_lt k e3
      unfold aCount
      rw [show aFrame (pcode (some g)) = some g from aFrame_nat h1, show aFrame (pcode (some f)) = some f from aFrame_nat h2]
      dsimp only
      unfold aFr at e3 e4
      cases e1 : aSlot p v with
      | none => rw [e1] at e3; cases e3
      | some x =>
        rw [e1] at e3 e4
        rw [ren_cnt rn e3 e4]
theorem pairs_loop {s t : S} {a b : Abs} (h : R s b) (k : R t a) (rn : Ren a b) (eb : (It 64 a).2 = b) {B : Nat} (eB : (It 64 a).1 = B) (q : List Int32) : ∀ m j N, j + m = 256 → m < N → ∃ u, law_114 N (Int32.ofNat B) (Int32.ofNat j) q s t = some (1, u)
  | _, _, 0, _, h => by omega
  | 0, j, N + 1, hj, _ => by
    have : j = 256 := by omega
    subst this
    rw [law_114, if_neg (by decide), law_297]
    exact pins_loop h k rn eb eB q 8 0 BIG (by omega) (by unfold BIG; omega)
  | m + 1, j, N + 1, hj, hN => by
    obtain ⟨u, ih⟩ := pairs_loop h k rn eb eB q m (j + 1) N (by omega) (by omega)
    refine ⟨u, ?_⟩
    have lb : ∀ p v f, aFr b p v = some f → f < 8 := fun p v f e => aFr_lt h e
    have la : ∀ p v f, aFr a p v = some f → f < 8 := fun p v f e => aFr_lt k e
    rw [law_114, if_pos ((lt_lit (m := 256) (by omega) (by decide)).mpr (by omega)), frameOf_ok h, frameOf_ok h, frameOf_ok k, frameOf_ok k, Option.bind_some, Option.bind_some, Option.bind_some, Option.bind_some]
    generalize ((Int32.ofNat j >>> ((4 : Int32) &&& 31)) >>> ((2 : Int32) &&& 31)) = p1
    generalize ((Int32.ofNat j >>> ((4 : Int32) &&& 31)) &&& (3 : Int32)) = v1
    generalize ((Int32.ofNat j &&& (15 : Int32)) >>> ((2 : Int32) &&& 31)) = p2
    generalize (Int32.ofNat j &&& (3 : Int32)) = v2
    obtain ⟨r1, r2, r3⟩ := aFr_ren rn p1 v1 p2 v2
    unfold law_205 law_217 law_230 law_240
    rw [if_pos (b_if (by rw [pcode_inj (lb p1 v1) (lb p2 v2), pcode_inj (la p1 v1) (la p2 v2)]; exact r1.symm)), if_pos (b_if (by rw [pcode_neg (lb p1 v1), pcode_neg (la p1 v1)]; exact r2.symm)), read_ok h, read_ok k, Option.bind_some, Option.bind_some, if_pos r3.symm, mapCount_ok h, mapCount_ok k, Option.bind_some, Option.bind_some, if_pos (cnt_ren h k rn p1 v1), ofNat_succ]
    exact ih
theorem fin9 {s t : S} {a : Abs} (h : R s a) (k : R t a) (q : List Int32) : ∃ u, law_91 q s t = some (1, u) := by
  obtain ⟨u, w, r⟩ := compact_ok h 64
  unfold aCompact at w r
  rw [show lim64 64 = 64 by decide] at w r
  have Wa : W a := fun x g e => ⟨(h.slot e).1, h.pos e⟩
  have rn := ren_go 9 a 0 7 0 64 (by omega) Wa
  have fi := full_it a
  unfold law_91
  rw [w, Option.bind_some]
  dsimp only at r ⊢
  rw [freeCount_ok r, freeCount_ok k, if_pos (by rw [rn.2.2.2.2])]
  exact pairs_loop r k rn (by rw [fi]) (by rw [fi]) q 256 0 BIG (by omega) (by unfold BIG; omega)
theorem law_true (q : List Int32) (hq : q.length ≤ 260) : ∃ t, law q = some (1, t) := by
  obtain ⟨s, es, Rs⟩ := init_R
  unfold law
  rw [es, Option.bind_some, Option.bind_some]
  have lt3 : ∀ k, k ≤ 300 → ((Int32.ofNat k + 3) < q.length.toInt32 ↔ k + 3 < q.length) := fun k hk => by
    rw [show Int32.ofNat k + 3 = Int32.ofNat (k + 3) from ofNat_lit k 3]; exact ofNat_lt (by omega) (by omega)
  refine run_script (fun n v (a : S × S) => law_24 n v q a.1 a.2) 4 q.length (by omega) (fun o => ∃ t, o = some (1, t)) (fun _ u => ∃ a, R u.1 a ∧ R u.2 a) ?_ ?_ BIG 0 (s, s) (by unfold BIG; omega) (by omega) ⟨_, Rs, Rs⟩
  · rintro n k ⟨u, w⟩ hk ⟨a, h, h'⟩
    dsimp only at h h'
    right
    obtain ⟨x0, e0⟩ := ix_some q (k := k) (by omega) (by omega)
    obtain ⟨x1, e1⟩ := ix_some q (k := k + 1) (by omega) (by omega)
    obtain ⟨x2, e2⟩ := ix_some q (k := k + 2) (by omega) (by omega)
    obtain ⟨x3, e3⟩ := ix_some q (k := k + 3) (by omega) (by omega)
    obtain ⟨s', t', a', d1, d2, d3, d4⟩ := step_ok h h' ((x0 &&& (15 : Int32)) % (9 : Int32)) x1 x2 x3
    refine ⟨(s', t'), ?_, a', d3, d4⟩
    show law_24 (n + 1) _ _ _ _ = law_24 n _ _ _ _
    rw [law_24, if_pos ((lt3 k (by omega)).mpr (by omega)), e0, Option.bind_some]
    rw [show Int32.ofNat k + 1 = Int32.ofNat (k + 1) from ofNat_lit k 1, show Int32.ofNat k + 2 = Int32.ofNat (k + 2) from ofNat_lit k 2, show Int32.ofNat k + 3 = Int32.ofNat (k + 3) from ofNat_lit k 3, show Int32.ofNat k + 4 = Int32.ofNat (k + 4) from ofNat_lit k 4, e1, Option.bind_some, e2, Option.bind_some, e3, Option.bind_some, d1, Option.bind_some, Option.bind_some, Option.bind_some, Option.bind_some, d2, Option.bind_some]
  · rintro n k ⟨u, w⟩ hk hk' ⟨a, h, h'⟩
    show ∃ t, law_24 (n + 1) _ _ _ _ = _
    rw [law_24, if_neg (fun z => by have := (lt3 k (by omega)).mp z; omega)]
    exact fin9 h h' q
set_option maxRecDepth 65536 in
set_option maxHeartbeats 40000000 in
theorem comes_1 {Post : Tables → Env → Array Value → State → Outcome → State → Prop} (hpost : ∀ tb e args s v u, (limb_1_1.after args s (.returned v) u = true ∧ limb_1_2.after args s (.returned v) u = true ∧ True) → FrameEnd s (.returned v) u (Jvm.fieldLocs frame_1_writes args s ++ Jvm.arrayLocs frame_1_arrays args s ++ Jvm.staticLocs frame_1_statics s) 48 1984 → Post tb e args s (.returned v) u) :
    ArmFor flags0 classFile x code maxLocals ret World_1 tables_1 room_1 Calls_1 rest_1 Pre_1 Post := by
  intro l hfl _ _ p e ha hc hk s m args below hf hA hF happ hP
  obtain ⟨hcalls, hrest, hpre⟩ := hP
  obtain ⟨-, -, -, hnamed, -, -, -, hat⟩ := (Spec.applies_iff hf).mp happ
  obtain ⟨hg, hn⟩ := and_e (Cond.before_iff.mp (show (Jvm.Cond.and given_1 narrow_1).before args s = true from hpre))
  obtain ⟨g0, b0⟩ := and_e hg
  have a0 := b0
  obtain ⟨w0, rfl⟩ : ∃ w0 : Value, args = #[w0] := by
    have hs : args.size = 1 := by simpa [Cond.value, given_1] using g0
    obtain ⟨L⟩ := args
    match L, hs with
    | [w0], _ => exact ⟨w0, rfl⟩
  have hw := fun d (hd : d ∈ tables_1) => atoms_spec (ws := Jvm.Cond.code x code maxLocals ret :: tables_1) hat d (List.mem_cons_of_mem _ hd)
  have hfit : Fit s := fun {y c} hc i hi => by
    obtain ⟨ha, rfl⟩ := Array.getElem?_eq_some_iff.mp hc
    have q := List.all_eq_true.mp ((Array.all_eq_true_iff_forall_mem.mp hF) _ (Array.getElem_mem ha)) i (List.mem_range.mpr hi)
    simpa [Array.getElem?_eq_getElem hi] using q
  obtain ⟨q1, q2⟩ := and_e hn
  obtain ⟨al, q, ei, A, hal, hlen⟩ := script_of hfit q1 q2
  obtain rfl : w0 = (.ref al) := Option.some.inj ei
  have hlen' : q.length ≤ 260 := by
    have e260 : (260 : Int32).toInt = 260 := rfl
    omega
  obtain ⟨t, ht⟩ := law_true q hlen'
  have C : Call PP m46 [.ref 0] (some q, []) (some (.int ((1 : Int32), t).1), (some q, [(8, ((1 : Int32), t).2.1), (8, ((1 : Int32), t).2.2)])) := call_of_go pl_1 rfl (fun h => by cases h) (law_ok q _ ht)
  obtain ⟨n, o, h1, h2, h3, _, L, rfl, ⟨rfl, N, _⟩, hq⟩ := C l s _ tables_1 al s.heap.size s.heap.size s.heap hw (facts1 hw) (Nat.le_refl _) (repW_some A hal) (Nat.zero_le _) (fun _ => ⟨rfl, rfl, rfl⟩) p e ha hc hk s m _ below hf ((Spec.applies_iff_loose hf).mp happ).1 ⟨rfl, State.Warmed39.refl s, rfl⟩ trivial
  refine ⟨n, _, h1, h2, h3, hpost _ _ _ _ _ _ ⟨Cond.after_iff.mpr rfl, Cond.after_iff.mpr (eq_i res_at (Term.int_eval (1)) rfl), trivial⟩ ⟨hq.1, hq.2.1, (hq.2.2.sift fun y hy => Or.inr (N y hy)).mono (by decide) (by decide)⟩⟩
theorem main_1_1 : Claimed_1_1 := comes_1 fun _ _ _ _ _ _ h hF => ⟨h.1, hF⟩
theorem main_1_2 : Claimed_1_2 := comes_1 fun _ _ _ _ _ _ h hF => ⟨h.2.1, hF⟩
end Jvm.Pilot.@@N@@
namespace Jvm.Pilot.@@N@@
open Jvm Jvm.ClassFile Sem Op Lib Jvm.Free Jvm.Stand Jvm.Pilot.@@N@@.Jvm.D
/-! MADE BY PROGRAM (witnessworld.py) out of the Statement's table words and the real class files: 11 classes; the members and pool entries that the words name. The judged class is class 1, her method 2. -/
namespace start1
open Jvm.ClassFile
def u (s : String) : CpInfo := .utf8 (stringToUtf16 s)
/-- a pool by its gaps: so many unusable entries, then the entry; so many at the end -/
def gap : Nat → List CpInfo → List CpInfo
  | 0, r => r
  | n + 1, r => .unusable :: gap n r
def poolList (es : List (Nat × CpInfo)) (last : Nat) : List CpInfo := es.foldr (fun e r => gap e.1 (e.2 :: r)) (gap last [])
def pool (es : List (Nat × CpInfo)) (last : Nat) : Array CpInfo := ⟨poolList es last⟩
def fileOf (pool : Array CpInfo) (this : Nat) (attrs : Array Attribute := #[]) (ms : Array MethodInfo := #[]) (fl : Nat := 33) (sup : Nat := 0) (ifs : Array Nat := #[]) (fds : Array FieldInfo := #[]) : ClassFile where
  minorVersion := 0
  majorVersion := 65
  constantPool := pool
  accessFlags := fl
  thisClass := this
  superClass := sup
  interfaces := ifs
  fields := fds
  methods := ms
  attributes := attrs
def plain (name : String) (sup : Option ClassId) : Class where
  name := name
  kind := .ordinary
  loader := none
  accessFlags := 33
  super := sup
  interfaces := #[]
  cf := none
  fields := #[]
  methods := #[]
  instanceTypes := #[]
  staticTypes := #[]
  resolved := #[]
  callSites := []
  init := .initialized
  statics := none
  mirror := none

def pool0 : Array CpInfo := pool [(5, u "<init>"), (0, u "()V"), (1, .class_ 10), (1, u "java/lang/Object")] 113

def k0c0 : Code := { maxStack := 0, maxLocals := 1, code := object_method_1_code, exceptionTable := #[], attributes := #[] }
def k0m0 : Method := { name := "<init>", desc := "()V", sig := { parameters := [], returnType := none }, accessFlags := 1, code := some k0c0 }
/-- java/lang/Object -/
def k0 : Class := { plain "java/lang/Object" none with
  accessFlags := 33
  interfaces := #[]
  cf := some (fileOf pool0 8 #[] #[{ accessFlags := 1, nameIndex := 5, descriptorIndex := 6, attributes := #[] }] 33 0 #[] #[])
  fields := #[]
  methods := #[k0m0]
  instanceTypes := #[]
  staticTypes := #[]
  resolved := Array.replicate 124 none
  statics := none }

def pool1 : Array CpInfo := pool [(2, .class_ 4), (1, u "java/lang/Object"), (0, u "<init>"), (0, u "()V"), (0, .methodref 8 9), (0, .class_ 10), (0, .nameAndType 11 12), (0, u "PageCompactorY"), (0, u "mapNew"), (0, u "(III)I"), (0, .methodref 8 14), (0, .nameAndType 15 16), (0, u "share"), (0, u "(IIII)I"), (0, .methodref 8 18), (0, .nameAndType 19 20), (0, u "unmap"), (0, u "(II)I"), (0, .methodref 8 22), (0, .nameAndType 23 24), (0, u "write"), (0, u "(III)Z"), (0, .methodref 8 26), (0, .nameAndType 27 28), (0, u "pin"), (0, u "(I)Z"), (0, .methodref 8 30), (0, .nameAndType 31 28), (0, u "unpin"), (0, .methodref 8 33), (0, .nameAndType 34 35), (0, u "allocBlock"), (0, u "(I)I"), (0, .methodref 8 37), (0, .nameAndType 38 28), (0, u "release"), (0, .methodref 8 40), (0, .nameAndType 41 35), (0, u "compact"), (0, .methodref 8 43), (0, .nameAndType 5 44), (0, u "(II)V"), (0, .methodref 46 47), (0, .class_ 48), (0, .nameAndType 49 50), (0, u "PageCompactorYL7"), (0, u "step"), (0, u "(LPageCompactorY;IIII)V"), (0, .methodref 8 52), (0, .nameAndType 53 54), (0, u "freeCount"), (0, u "()I"), (0, .methodref 8 56), (0, .nameAndType 57 20), (0, u "frameOf"), (0, .methodref 8 59), (0, .nameAndType 60 20), (0, u "read"), (0, .methodref 8 62), (0, .nameAndType 63 35), (0, u "mapCount"), (0, .methodref 8 65), (0, .nameAndType 66 35), (0, u "frameState"), (0, .methodref 8 68), (0, .nameAndType 69 35), (0, u "frameValue"), (3, u "law"), (0, u "([I)Z")] 4

def k1m0 : Method := { name := "<init>", desc := "()V", sig := { parameters := [], returnType := none }, accessFlags := 1, code := none }
def k1c1 : Code := { maxStack := 6, maxLocals := 8, code := method_2_code, exceptionTable := #[], attributes := #[] }
def k1m1 : Method := { name := "step", desc := "(LPageCompactorY;IIII)V", sig := { parameters := [(.object "PageCompactorY"), .int, .int, .int, .int], returnType := none }, accessFlags := 10, code := some k1c1 }
def k1c2 : Code := { maxStack := 7, maxLocals := 15, code := code, exceptionTable := #[], attributes := #[] }
def k1m2 : Method := { name := "law", desc := "([I)Z", sig := { parameters := [(.array .int)], returnType := some .boolean }, accessFlags := 9, code := some k1c2 }
/-- PageCompactorYL7 -/
def k1 : Class := { plain "PageCompactorYL7" (some 0) with
  accessFlags := 33
  interfaces := #[]
  cf := some (fileOf pool1 46 #[] #[{ accessFlags := 1, nameIndex := 5, descriptorIndex := 6, attributes := #[] }, { accessFlags := 10, nameIndex := 49, descriptorIndex := 50, attributes := #[] }, { accessFlags := 9, nameIndex := 73, descriptorIndex := 74, attributes := #[] }] 33 2 #[] #[])
  fields := #[]
  methods := #[k1m0, k1m1, k1m2]
  instanceTypes := #[]
  staticTypes := #[]
  resolved := Array.replicate 79 none
  statics := none }

def pool2 : Array CpInfo := pool [(1, .methodref 2 3), (0, .class_ 4), (0, .nameAndType 5 6), (0, u "java/lang/Object"), (0, u "<init>"), (0, u "()V"), (0, .fieldref 8 9), (0, .class_ 10), (0, .nameAndType 11 12), (0, u "PageCompactorY"), (0, u "frameStates"), (0, u "[B"), (0, .fieldref 8 14), (0, .nameAndType 15 16), (0, u "frameValues"), (0, u "[I"), (0, .fieldref 8 18), (0, .nameAndType 19 16), (0, u "frameCounts"), (0, .fieldref 8 21), (0, .nameAndType 22 16), (0, u "pageFrame"), (0, .fieldref 8 24), (0, .nameAndType 25 16), (0, u "rmapHead"), (0, .fieldref 8 27), (0, .nameAndType 28 16), (0, u "rmapNext"), (0, .fieldref 8 30), (0, .nameAndType 31 16), (0, u "rmapPrev"), (0, .fieldref 8 33), (0, .nameAndType 34 35), (0, u "runSet"), (0, u "[J"), (0, .methodref 8 37), (0, .nameAndType 38 39), (0, u "clampInt"), (0, u "(III)I"), (0, .fieldref 8 41), (0, .nameAndType 42 43), (0, u "frameTotal"), (0, u "I"), (0, .fieldref 8 45), (0, .nameAndType 46 43), (0, u "pageTotal"), (0, .methodref 8 48), (0, .nameAndType 49 6), (0, u "resetAll"), (0, .methodref 8 51), (0, .nameAndType 52 53), (0, u "checkTarget"), (0, u "(II)I"), (0, .fieldref 8 55), (0, .nameAndType 56 57), (0, u "freeSet"), (0, u "J"), (0, .methodref 8 59), (0, .nameAndType 60 61), (0, u "lowestBit"), (0, u "(J)I"), (0, .methodref 8 63), (0, .nameAndType 64 65), (0, u "frameInRange"), (0, u "(I)Z"), (0, .methodref 8 67), (0, .nameAndType 68 53), (0, u "slotOf"), (0, .methodref 8 70), (0, .nameAndType 71 72), (0, u "enterState"), (0, u "(II)V"), (0, .methodref 8 74), (0, .nameAndType 75 72), (0, u "attachPage"), (0, .methodref 8 77), (0, .nameAndType 78 79), (0, u "pageInRange"), (0, u "(II)Z"), (0, .methodref 8 81), (0, .nameAndType 82 83), (0, u "detachPage"), (0, u "(I)I"), (0, .methodref 8 85), (0, .nameAndType 86 87), (0, u "freeFrame"), (0, u "(I)V"), (0, .methodref 8 89), (0, .nameAndType 90 53), (0, u "mappedFrame"), (0, .methodref 8 92), (0, .nameAndType 93 94), (0, u "freeRunsOfOrder"), (0, u "(I)J"), (0, .methodref 8 96), (0, .nameAndType 97 72), (0, u "reserveRun"), (0, .fieldref 8 99), (0, .nameAndType 100 43), (0, u "scanLimit"), (0, .fieldref 8 102), (0, .nameAndType 103 43), (0, u "scanMoved"), (0, .fieldref 8 105), (0, .nameAndType 106 43), (0, u "scanMigrate"), (0, .fieldref 8 108), (0, .nameAndType 109 43), (0, u "scanFree"), (0, .methodref 8 111), (0, .nameAndType 112 6), (0, u "advanceMigrateScanner"), (0, .methodref 8 114), (0, .nameAndType 115 6), (0, u "retreatFreeScanner"), (0, .methodref 8 117), (0, .nameAndType 118 119), (0, u "scannersDone"), (0, u "()Z"), (0, .methodref 8 121), (0, .nameAndType 122 72), (0, u "migrateFrame"), (0, .methodref 8 124), (0, .nameAndType 125 61), (0, u "bitCount"), (0, .methodref 8 127), (0, .nameAndType 128 6), (0, u "refreshRuns"), (0, .methodref 8 130), (0, .nameAndType 131 94), (0, u "lowMask"), (0, .fieldref 8 133), (0, .nameAndType 134 57), (0, u "mappedSet"), (0, .fieldref 8 136), (0, .nameAndType 137 57), (0, u "pinnedSet"), (0, .fieldref 8 139), (0, .nameAndType 140 57), (0, u "reservedSet"), (0, .fieldref 8 142), (0, .nameAndType 143 144), (0, u "runsStale"), (0, u "Z"), (0, .methodref 8 146), (0, .nameAndType 147 94), (0, u "bitOf"), (0, .long 18446744073709551615), (1, .methodref 8 151), (0, .nameAndType 152 87), (0, u "reserveFrame"), (0, .methodref 8 154), (0, .nameAndType 155 72), (0, u "rmapLink"), (0, .methodref 8 157), (0, .nameAndType 158 83), (0, u "rmapUnlink"), (0, .methodref 8 160), (0, .nameAndType 161 94), (0, u "alignMask"), (0, .long 6148914691236517205), (1, .long 1229782938247303441), (1, .long 72340172838076673), (1, .long 281479271743489), (1, .long 4294967297), (1, .methodref 8 173), (0, .nameAndType 174 175), (0, u "rangeMask"), (0, u "(II)J"), (0, .methodref 8 177), (0, .nameAndType 178 61), (0, u "highestBit"), (0, .methodref 8 180), (0, .nameAndType 181 72), (0, u "rmapTransfer"), (0, .long 4294967295), (1, .long 65535), (1, .long 255), (1, .long 15), (1, .long 3), (1, .long 3689348814741910323), (1, .long 1085102592571150095), (1, u "PROCESSES"), (2, u "MAX_ORDER"), (1, u "FREE"), (1, u "MAPPED"), (1, u "PINNED"), (1, u "RESERVED"), (1, u "NONE"), (1, u "ERR_ARG"), (0, u "ERR_MAPPED"), (1, u "ERR_UNMAPPED"), (1, u "ERR_FULL"), (3, u "mapNew"), (1, u "share"), (0, u "(IIII)I"), (0, u "unmap"), (0, u "write"), (0, u "(III)Z"), (0, u "read"), (0, u "frameOf"), (0, u "pin"), (0, u "unpin"), (0, u "allocBlock"), (0, u "release"), (0, u "compact"), (0, u "frameState"), (0, u "frameValue"), (0, u "mapCount"), (0, u "freeCount"), (0, u "()I")] 3

def k2c0 : Code := { maxStack := 5, maxLocals := 3, code := prog_1_method_1_code, exceptionTable := #[], attributes := #[] }
def k2m0 : Method := { name := "<init>", desc := "(II)V", sig := { parameters := [.int, .int], returnType := none }, accessFlags := 1, code := some k2c0 }
def k2c1 : Code := { maxStack := 4, maxLocals := 7, code := prog_1_method_2_code, exceptionTable := #[], attributes := #[] }
def k2m1 : Method := { name := "mapNew", desc := "(III)I", sig := { parameters := [.int, .int, .int], returnType := some .int }, accessFlags := 1, code := some k2c1 }
def k2c2 : Code := { maxStack := 3, maxLocals := 8, code := prog_1_method_3_code, exceptionTable := #[], attributes := #[] }
def k2m2 : Method := { name := "share", desc := "(IIII)I", sig := { parameters := [.int, .int, .int, .int], returnType := some .int }, accessFlags := 1, code := some k2c2 }
def k2c3 : Code := { maxStack := 3, maxLocals := 5, code := prog_1_method_4_code, exceptionTable := #[], attributes := #[] }
def k2m3 : Method := { name := "unmap", desc := "(II)I", sig := { parameters := [.int, .int], returnType := some .int }, accessFlags := 1, code := some k2c3 }
def k2c4 : Code := { maxStack := 3, maxLocals := 5, code := prog_1_method_5_code, exceptionTable := #[], attributes := #[] }
def k2m4 : Method := { name := "write", desc := "(III)Z", sig := { parameters := [.int, .int, .int], returnType := some .boolean }, accessFlags := 1, code := some k2c4 }
def k2c5 : Code := { maxStack := 3, maxLocals := 4, code := prog_1_method_6_code, exceptionTable := #[], attributes := #[] }
def k2m5 : Method := { name := "read", desc := "(II)I", sig := { parameters := [.int, .int], returnType := some .int }, accessFlags := 1, code := some k2c5 }
def k2c6 : Code := { maxStack := 3, maxLocals := 4, code := prog_1_method_7_code, exceptionTable := #[], attributes := #[] }
def k2m6 : Method := { name := "frameOf", desc := "(II)I", sig := { parameters := [.int, .int], returnType := some .int }, accessFlags := 1, code := some k2c6 }
def k2c7 : Code := { maxStack := 3, maxLocals := 2, code := prog_1_method_8_code, exceptionTable := #[], attributes := #[] }
def k2m7 : Method := { name := "pin", desc := "(I)Z", sig := { parameters := [.int], returnType := some .boolean }, accessFlags := 1, code := some k2c7 }
def k2c8 : Code := { maxStack := 3, maxLocals := 2, code := prog_1_method_9_code, exceptionTable := #[], attributes := #[] }
def k2m8 : Method := { name := "unpin", desc := "(I)Z", sig := { parameters := [.int], returnType := some .boolean }, accessFlags := 1, code := some k2c8 }
def k2c9 : Code := { maxStack := 4, maxLocals := 5, code := prog_1_method_10_code, exceptionTable := #[], attributes := #[] }
def k2m9 : Method := { name := "allocBlock", desc := "(I)I", sig := { parameters := [.int], returnType := some .int }, accessFlags := 1, code := some k2c9 }
def k2c10 : Code := { maxStack := 2, maxLocals := 2, code := prog_1_method_11_code, exceptionTable := #[], attributes := #[] }
def k2m10 : Method := { name := "release", desc := "(I)Z", sig := { parameters := [.int], returnType := some .boolean }, accessFlags := 1, code := some k2c10 }
def k2c11 : Code := { maxStack := 5, maxLocals := 3, code := prog_1_method_12_code, exceptionTable := #[], attributes := #[] }
def k2m11 : Method := { name := "compact", desc := "(I)I", sig := { parameters := [.int], returnType := some .int }, accessFlags := 1, code := some k2c11 }
def k2c12 : Code := { maxStack := 2, maxLocals := 2, code := prog_1_method_13_code, exceptionTable := #[], attributes := #[] }
def k2m12 : Method := { name := "frameState", desc := "(I)I", sig := { parameters := [.int], returnType := some .int }, accessFlags := 1, code := some k2c12 }
def k2c13 : Code := { maxStack := 2, maxLocals := 3, code := prog_1_method_14_code, exceptionTable := #[], attributes := #[] }
def k2m13 : Method := { name := "frameValue", desc := "(I)I", sig := { parameters := [.int], returnType := some .int }, accessFlags := 1, code := some k2c13 }
def k2c14 : Code := { maxStack := 2, maxLocals := 2, code := prog_1_method_15_code, exceptionTable := #[], attributes := #[] }
def k2m14 : Method := { name := "mapCount", desc := "(I)I", sig := { parameters := [.int], returnType := some .int }, accessFlags := 1, code := some k2c14 }
def k2c15 : Code := { maxStack := 3, maxLocals := 1, code := prog_1_method_16_code, exceptionTable := #[], attributes := #[] }
def k2m15 : Method := { name := "freeCount", desc := "()I", sig := { parameters := [], returnType := some .int }, accessFlags := 1, code := some k2c15 }
def k2c16 : Code := { maxStack := 2, maxLocals := 4, code := prog_1_method_18_code, exceptionTable := #[], attributes := #[] }
def k2m16 : Method := { name := "clampInt", desc := "(III)I", sig := { parameters := [.int, .int, .int], returnType := some .int }, accessFlags := 2, code := some k2c16 }
def k2c17 : Code := { maxStack := 2, maxLocals := 3, code := prog_1_method_19_code, exceptionTable := #[], attributes := #[] }
def k2m17 : Method := { name := "pageInRange", desc := "(II)Z", sig := { parameters := [.int, .int], returnType := some .boolean }, accessFlags := 2, code := some k2c17 }
def k2c18 : Code := { maxStack := 2, maxLocals := 2, code := prog_1_method_20_code, exceptionTable := #[], attributes := #[] }
def k2m18 : Method := { name := "frameInRange", desc := "(I)Z", sig := { parameters := [.int], returnType := some .boolean }, accessFlags := 2, code := some k2c18 }
def k2c19 : Code := { maxStack := 2, maxLocals := 3, code := prog_1_method_21_code, exceptionTable := #[], attributes := #[] }
def k2m19 : Method := { name := "slotOf", desc := "(II)I", sig := { parameters := [.int, .int], returnType := some .int }, accessFlags := 2, code := some k2c19 }
def k2c20 : Code := { maxStack := 3, maxLocals := 4, code := prog_1_method_22_code, exceptionTable := #[], attributes := #[] }
def k2m20 : Method := { name := "checkTarget", desc := "(II)I", sig := { parameters := [.int, .int], returnType := some .int }, accessFlags := 2, code := some k2c20 }
def k2c21 : Code := { maxStack := 3, maxLocals := 5, code := prog_1_method_23_code, exceptionTable := #[], attributes := #[] }
def k2m21 : Method := { name := "mappedFrame", desc := "(II)I", sig := { parameters := [.int, .int], returnType := some .int }, accessFlags := 2, code := some k2c21 }
def k2c22 : Code := { maxStack := 3, maxLocals := 2, code := prog_1_method_24_code, exceptionTable := #[], attributes := #[] }
def k2m22 : Method := { name := "resetAll", desc := "()V", sig := { parameters := [], returnType := none }, accessFlags := 2, code := some k2c22 }
def k2c23 : Code := { maxStack := 7, maxLocals := 5, code := prog_1_method_25_code, exceptionTable := #[], attributes := #[] }
def k2m23 : Method := { name := "enterState", desc := "(II)V", sig := { parameters := [.int, .int], returnType := none }, accessFlags := 2, code := some k2c23 }
def k2c24 : Code := { maxStack := 3, maxLocals := 2, code := prog_1_method_26_code, exceptionTable := #[], attributes := #[] }
def k2m24 : Method := { name := "freeFrame", desc := "(I)V", sig := { parameters := [.int], returnType := none }, accessFlags := 2, code := some k2c24 }
def k2c25 : Code := { maxStack := 3, maxLocals := 2, code := prog_1_method_27_code, exceptionTable := #[], attributes := #[] }
def k2m25 : Method := { name := "reserveFrame", desc := "(I)V", sig := { parameters := [.int], returnType := none }, accessFlags := 2, code := some k2c25 }
def k2c26 : Code := { maxStack := 3, maxLocals := 5, code := prog_1_method_28_code, exceptionTable := #[], attributes := #[] }
def k2m26 : Method := { name := "reserveRun", desc := "(II)V", sig := { parameters := [.int, .int], returnType := none }, accessFlags := 2, code := some k2c26 }
def k2c27 : Code := { maxStack := 4, maxLocals := 3, code := prog_1_method_29_code, exceptionTable := #[], attributes := #[] }
def k2m27 : Method := { name := "attachPage", desc := "(II)V", sig := { parameters := [.int, .int], returnType := none }, accessFlags := 2, code := some k2c27 }
def k2c28 : Code := { maxStack := 4, maxLocals := 3, code := prog_1_method_30_code, exceptionTable := #[], attributes := #[] }
def k2m28 : Method := { name := "detachPage", desc := "(I)I", sig := { parameters := [.int], returnType := some .int }, accessFlags := 2, code := some k2c28 }
def k2c29 : Code := { maxStack := 3, maxLocals := 4, code := prog_1_method_31_code, exceptionTable := #[], attributes := #[] }
def k2m29 : Method := { name := "rmapLink", desc := "(II)V", sig := { parameters := [.int, .int], returnType := none }, accessFlags := 2, code := some k2c29 }
def k2c30 : Code := { maxStack := 3, maxLocals := 5, code := prog_1_method_32_code, exceptionTable := #[], attributes := #[] }
def k2m30 : Method := { name := "rmapUnlink", desc := "(I)I", sig := { parameters := [.int], returnType := some .int }, accessFlags := 2, code := some k2c30 }
def k2c31 : Code := { maxStack := 4, maxLocals := 5, code := prog_1_method_33_code, exceptionTable := #[], attributes := #[] }
def k2m31 : Method := { name := "rmapTransfer", desc := "(II)V", sig := { parameters := [.int, .int], returnType := none }, accessFlags := 2, code := some k2c31 }
def k2c32 : Code := { maxStack := 2, maxLocals := 2, code := prog_1_method_34_code, exceptionTable := #[], attributes := #[] }
def k2m32 : Method := { name := "freeRunsOfOrder", desc := "(I)J", sig := { parameters := [.int], returnType := some .long }, accessFlags := 2, code := some k2c32 }
def k2c33 : Code := { maxStack := 5, maxLocals := 7, code := prog_1_method_35_code, exceptionTable := #[], attributes := #[] }
def k2m33 : Method := { name := "refreshRuns", desc := "()V", sig := { parameters := [], returnType := none }, accessFlags := 2, code := some k2c33 }
def k2c34 : Code := { maxStack := 2, maxLocals := 2, code := prog_1_method_36_code, exceptionTable := #[], attributes := #[] }
def k2m34 : Method := { name := "alignMask", desc := "(I)J", sig := { parameters := [.int], returnType := some .long }, accessFlags := 2, code := some k2c34 }
def k2c35 : Code := { maxStack := 4, maxLocals := 5, code := prog_1_method_37_code, exceptionTable := #[], attributes := #[] }
def k2m35 : Method := { name := "advanceMigrateScanner", desc := "()V", sig := { parameters := [], returnType := none }, accessFlags := 2, code := some k2c35 }
def k2c36 : Code := { maxStack := 4, maxLocals := 5, code := prog_1_method_38_code, exceptionTable := #[], attributes := #[] }
def k2m36 : Method := { name := "retreatFreeScanner", desc := "()V", sig := { parameters := [], returnType := none }, accessFlags := 2, code := some k2c36 }
def k2c37 : Code := { maxStack := 2, maxLocals := 1, code := prog_1_method_39_code, exceptionTable := #[], attributes := #[] }
def k2m37 : Method := { name := "scannersDone", desc := "()Z", sig := { parameters := [], returnType := some .boolean }, accessFlags := 2, code := some k2c37 }
def k2c38 : Code := { maxStack := 3, maxLocals := 5, code := prog_1_method_40_code, exceptionTable := #[], attributes := #[] }
def k2m38 : Method := { name := "migrateFrame", desc := "(II)V", sig := { parameters := [.int, .int], returnType := none }, accessFlags := 2, code := some k2c38 }
def k2c39 : Code := { maxStack := 3, maxLocals := 2, code := prog_1_method_41_code, exceptionTable := #[], attributes := #[] }
def k2m39 : Method := { name := "bitOf", desc := "(I)J", sig := { parameters := [.int], returnType := some .long }, accessFlags := 2, code := some k2c39 }
def k2c40 : Code := { maxStack := 4, maxLocals := 2, code := prog_1_method_42_code, exceptionTable := #[], attributes := #[] }
def k2m40 : Method := { name := "lowMask", desc := "(I)J", sig := { parameters := [.int], returnType := some .long }, accessFlags := 2, code := some k2c40 }
def k2c41 : Code := { maxStack := 6, maxLocals := 7, code := prog_1_method_43_code, exceptionTable := #[], attributes := #[] }
def k2m41 : Method := { name := "rangeMask", desc := "(II)J", sig := { parameters := [.int, .int], returnType := some .long }, accessFlags := 2, code := some k2c41 }
def k2c42 : Code := { maxStack := 4, maxLocals := 6, code := prog_1_method_44_code, exceptionTable := #[], attributes := #[] }
def k2m42 : Method := { name := "lowestBit", desc := "(J)I", sig := { parameters := [.long], returnType := some .int }, accessFlags := 2, code := some k2c42 }
def k2c43 : Code := { maxStack := 4, maxLocals := 6, code := prog_1_method_45_code, exceptionTable := #[], attributes := #[] }
def k2m43 : Method := { name := "highestBit", desc := "(J)I", sig := { parameters := [.long], returnType := some .int }, accessFlags := 2, code := some k2c43 }
def k2c44 : Code := { maxStack := 6, maxLocals := 5, code := prog_1_method_46_code, exceptionTable := #[], attributes := #[] }
def k2m44 : Method := { name := "bitCount", desc := "(J)I", sig := { parameters := [.long], returnType := some .int }, accessFlags := 2, code := some k2c44 }
/-- PageCompactorY -/
def k2 : Class := { plain "PageCompactorY" (some 0) with
  accessFlags := 49
  interfaces := #[]
  cf := some (fileOf pool2 8 #[] #[{ accessFlags := 1, nameIndex := 5, descriptorIndex := 72, attributes := #[] }, { accessFlags := 1, nameIndex := 220, descriptorIndex := 39, attributes := #[] }, { accessFlags := 1, nameIndex := 222, descriptorIndex := 223, attributes := #[] }, { accessFlags := 1, nameIndex := 224, descriptorIndex := 53, attributes := #[] }, { accessFlags := 1, nameIndex := 225, descriptorIndex := 226, attributes := #[] }, { accessFlags := 1, nameIndex := 227, descriptorIndex := 53, attributes := #[] }, { accessFlags := 1, nameIndex := 228, descriptorIndex := 53, attributes := #[] }, { accessFlags := 1, nameIndex := 229, descriptorIndex := 65, attributes := #[] }, { accessFlags := 1, nameIndex := 230, descriptorIndex := 65, attributes := #[] }, { accessFlags := 1, nameIndex := 231, descriptorIndex := 83, attributes := #[] }, { accessFlags := 1, nameIndex := 232, descriptorIndex := 65, attributes := #[] }, { accessFlags := 1, nameIndex := 233, descriptorIndex := 83, attributes := #[] }, { accessFlags := 1, nameIndex := 234, descriptorIndex := 83, attributes := #[] }, { accessFlags := 1, nameIndex := 235, descriptorIndex := 83, attributes := #[] }, { accessFlags := 1, nameIndex := 236, descriptorIndex := 83, attributes := #[] }, { accessFlags := 1, nameIndex := 237, descriptorIndex := 238, attributes := #[] }, { accessFlags := 2, nameIndex := 38, descriptorIndex := 39, attributes := #[] }, { accessFlags := 2, nameIndex := 78, descriptorIndex := 79, attributes := #[] }, { accessFlags := 2, nameIndex := 64, descriptorIndex := 65, attributes := #[] }, { accessFlags := 2, nameIndex := 68, descriptorIndex := 53, attributes := #[] }, { accessFlags := 2, nameIndex := 52, descriptorIndex := 53, attributes := #[] }, { accessFlags := 2, nameIndex := 90, descriptorIndex := 53, attributes := #[] }, { accessFlags := 2, nameIndex := 49, descriptorIndex := 6, attributes := #[] }, { accessFlags := 2, nameIndex := 71, descriptorIndex := 72, attributes := #[] }, { accessFlags := 2, nameIndex := 86, descriptorIndex := 87, attributes := #[] }, { accessFlags := 2, nameIndex := 152, descriptorIndex := 87, attributes := #[] }, { accessFlags := 2, nameIndex := 97, descriptorIndex := 72, attributes := #[] }, { accessFlags := 2, nameIndex := 75, descriptorIndex := 72, attributes := #[] }, { accessFlags := 2, nameIndex := 82, descriptorIndex := 83, attributes := #[] }, { accessFlags := 2, nameIndex := 155, descriptorIndex := 72, attributes := #[] }, { accessFlags := 2, nameIndex := 158, descriptorIndex := 83, attributes := #[] }, { accessFlags := 2, nameIndex := 181, descriptorIndex := 72, attributes := #[] }, { accessFlags := 2, nameIndex := 93, descriptorIndex := 94, attributes := #[] }, { accessFlags := 2, nameIndex := 128, descriptorIndex := 6, attributes := #[] }, { accessFlags := 2, nameIndex := 161, descriptorIndex := 94, attributes := #[] }, { accessFlags := 2, nameIndex := 112, descriptorIndex := 6, attributes := #[] }, { accessFlags := 2, nameIndex := 115, descriptorIndex := 6, attributes := #[] }, { accessFlags := 2, nameIndex := 118, descriptorIndex := 119, attributes := #[] }, { accessFlags := 2, nameIndex := 122, descriptorIndex := 72, attributes := #[] }, { accessFlags := 2, nameIndex := 147, descriptorIndex := 94, attributes := #[] }, { accessFlags := 2, nameIndex := 131, descriptorIndex := 94, attributes := #[] }, { accessFlags := 2, nameIndex := 174, descriptorIndex := 175, attributes := #[] }, { accessFlags := 2, nameIndex := 60, descriptorIndex := 61, attributes := #[] }, { accessFlags := 2, nameIndex := 178, descriptorIndex := 61, attributes := #[] }, { accessFlags := 2, nameIndex := 125, descriptorIndex := 61, attributes := #[] }] 49 2 #[] #[{ accessFlags := 25, nameIndex := 196, descriptorIndex := 43, attributes := #[] }, { accessFlags := 25, nameIndex := 199, descriptorIndex := 43, attributes := #[] }, { accessFlags := 25, nameIndex := 201, descriptorIndex := 43, attributes := #[] }, { accessFlags := 25, nameIndex := 203, descriptorIndex := 43, attributes := #[] }, { accessFlags := 25, nameIndex := 205, descriptorIndex := 43, attributes := #[] }, { accessFlags := 25, nameIndex := 207, descriptorIndex := 43, attributes := #[] }, { accessFlags := 25, nameIndex := 209, descriptorIndex := 43, attributes := #[] }, { accessFlags := 25, nameIndex := 211, descriptorIndex := 43, attributes := #[] }, { accessFlags := 25, nameIndex := 212, descriptorIndex := 43, attributes := #[] }, { accessFlags := 25, nameIndex := 214, descriptorIndex := 43, attributes := #[] }, { accessFlags := 25, nameIndex := 216, descriptorIndex := 43, attributes := #[] }, { accessFlags := 2, nameIndex := 42, descriptorIndex := 43, attributes := #[] }, { accessFlags := 2, nameIndex := 46, descriptorIndex := 43, attributes := #[] }, { accessFlags := 18, nameIndex := 11, descriptorIndex := 12, attributes := #[] }, { accessFlags := 18, nameIndex := 15, descriptorIndex := 16, attributes := #[] }, { accessFlags := 18, nameIndex := 19, descriptorIndex := 16, attributes := #[] }, { accessFlags := 18, nameIndex := 22, descriptorIndex := 16, attributes := #[] }, { accessFlags := 18, nameIndex := 25, descriptorIndex := 16, attributes := #[] }, { accessFlags := 18, nameIndex := 28, descriptorIndex := 16, attributes := #[] }, { accessFlags := 18, nameIndex := 31, descriptorIndex := 16, attributes := #[] }, { accessFlags := 2, nameIndex := 56, descriptorIndex := 57, attributes := #[] }, { accessFlags := 2, nameIndex := 134, descriptorIndex := 57, attributes := #[] }, { accessFlags := 2, nameIndex := 137, descriptorIndex := 57, attributes := #[] }, { accessFlags := 2, nameIndex := 140, descriptorIndex := 57, attributes := #[] }, { accessFlags := 18, nameIndex := 34, descriptorIndex := 35, attributes := #[] }, { accessFlags := 2, nameIndex := 143, descriptorIndex := 144, attributes := #[] }, { accessFlags := 2, nameIndex := 106, descriptorIndex := 43, attributes := #[] }, { accessFlags := 2, nameIndex := 109, descriptorIndex := 43, attributes := #[] }, { accessFlags := 2, nameIndex := 103, descriptorIndex := 43, attributes := #[] }, { accessFlags := 2, nameIndex := 100, descriptorIndex := 43, attributes := #[] }])
  fields := #[{ name := "PROCESSES", type := .int, accessFlags := 25, slot := 0, constantValue := 0 }, { name := "MAX_ORDER", type := .int, accessFlags := 25, slot := 1, constantValue := 0 }, { name := "FREE", type := .int, accessFlags := 25, slot := 2, constantValue := 0 }, { name := "MAPPED", type := .int, accessFlags := 25, slot := 3, constantValue := 0 }, { name := "PINNED", type := .int, accessFlags := 25, slot := 4, constantValue := 0 }, { name := "RESERVED", type := .int, accessFlags := 25, slot := 5, constantValue := 0 }, { name := "NONE", type := .int, accessFlags := 25, slot := 6, constantValue := 0 }, { name := "ERR_ARG", type := .int, accessFlags := 25, slot := 7, constantValue := 0 }, { name := "ERR_MAPPED", type := .int, accessFlags := 25, slot := 8, constantValue := 0 }, { name := "ERR_UNMAPPED", type := .int, accessFlags := 25, slot := 9, constantValue := 0 }, { name := "ERR_FULL", type := .int, accessFlags := 25, slot := 10, constantValue := 0 }, { name := "frameTotal", type := .int, accessFlags := 2, slot := 0, constantValue := 0 }, { name := "pageTotal", type := .int, accessFlags := 2, slot := 1, constantValue := 0 }, { name := "frameStates", type := (.array .byte), accessFlags := 18, slot := 2, constantValue := 0 }, { name := "frameValues", type := (.array .int), accessFlags := 18, slot := 3, constantValue := 0 }, { name := "frameCounts", type := (.array .int), accessFlags := 18, slot := 4, constantValue := 0 }, { name := "pageFrame", type := (.array .int), accessFlags := 18, slot := 5, constantValue := 0 }, { name := "rmapHead", type := (.array .int), accessFlags := 18, slot := 6, constantValue := 0 }, { name := "rmapNext", type := (.array .int), accessFlags := 18, slot := 7, constantValue := 0 }, { name := "rmapPrev", type := (.array .int), accessFlags := 18, slot := 8, constantValue := 0 }, { name := "freeSet", type := .long, accessFlags := 2, slot := 9, constantValue := 0 }, { name := "mappedSet", type := .long, accessFlags := 2, slot := 10, constantValue := 0 }, { name := "pinnedSet", type := .long, accessFlags := 2, slot := 11, constantValue := 0 }, { name := "reservedSet", type := .long, accessFlags := 2, slot := 12, constantValue := 0 }, { name := "runSet", type := (.array .long), accessFlags := 18, slot := 13, constantValue := 0 }, { name := "runsStale", type := .boolean, accessFlags := 2, slot := 14, constantValue := 0 }, { name := "scanMigrate", type := .int, accessFlags := 2, slot := 15, constantValue := 0 }, { name := "scanFree", type := .int, accessFlags := 2, slot := 16, constantValue := 0 }, { name := "scanMoved", type := .int, accessFlags := 2, slot := 17, constantValue := 0 }, { name := "scanLimit", type := .int, accessFlags := 2, slot := 18, constantValue := 0 }]
  methods := #[k2m0, k2m1, k2m2, k2m3, k2m4, k2m5, k2m6, k2m7, k2m8, k2m9, k2m10, k2m11, k2m12, k2m13, k2m14, k2m15, k2m16, k2m17, k2m18, k2m19, k2m20, k2m21, k2m22, k2m23, k2m24, k2m25, k2m26, k2m27, k2m28, k2m29, k2m30, k2m31, k2m32, k2m33, k2m34, k2m35, k2m36, k2m37, k2m38, k2m39, k2m40, k2m41, k2m42, k2m43, k2m44]
  instanceTypes := #[.int, .int, (.array .byte), (.array .int), (.array .int), (.array .int), (.array .int), (.array .int), (.array .int), .long, .long, .long, .long, (.array .long), .boolean, .int, .int, .int, .int]
  staticTypes := #[.int, .int, .int, .int, .int, .int, .int, .int, .int, .int, .int]
  resolved := Array.replicate 242 none
  statics := none }

def pool3 : Array CpInfo := pool [(1, u "java/lang/Cloneable"), (0, .class_ 1), (0, u "java/lang/Object"), (0, .class_ 3)] 3

/-- java/lang/Cloneable -/
def k3 : Class := { plain "java/lang/Cloneable" (some 0) with
  accessFlags := 1537
  interfaces := #[]
  cf := some (fileOf pool3 2 #[] #[] 1537 4 #[] #[])
  fields := #[]
  methods := #[]
  instanceTypes := #[]
  staticTypes := #[]
  resolved := Array.replicate 8 none
  statics := none }

def pool4 : Array CpInfo := pool [(1, u "java/io/Serializable"), (0, .class_ 1), (0, u "java/lang/Object"), (0, .class_ 3)] 3

/-- java/io/Serializable -/
def k4 : Class := { plain "java/io/Serializable" (some 0) with
  accessFlags := 1537
  interfaces := #[]
  cf := some (fileOf pool4 2 #[] #[] 1537 4 #[] #[])
  fields := #[]
  methods := #[]
  instanceTypes := #[]
  staticTypes := #[]
  resolved := Array.replicate 8 none
  statics := none }

/-- the primitive byte -/
def k5 : Class := { plain "byte" none with kind := .primitive 'B', accessFlags := 0x411 }
/-- [B -/
def k6 : Class := { plain "[B" (some 0) with kind := .array 5 .byte, interfaces := #[3, 4], accessFlags := 1041 }

/-- the primitive int -/
def k7 : Class := { plain "int" none with kind := .primitive 'I', accessFlags := 0x411 }
/-- [I -/
def k8 : Class := { plain "[I" (some 0) with kind := .array 7 .int, interfaces := #[3, 4], accessFlags := 1041 }

/-- the primitive long -/
def k9 : Class := { plain "long" none with kind := .primitive 'J', accessFlags := 0x411 }
/-- [J -/
def k10 : Class := { plain "[J" (some 0) with kind := .array 9 .long, interfaces := #[3, 4], accessFlags := 1041 }

def heap : Heap := #[{ cls := 8, slots := #[.int 0, .int 1, .int 2], vm := .none }]
def classes : Array Class := #[k0, k1, k2, k3, k4, k5, k6, k7, k8, k9, k10]
def interned : List (Array UInt16 × Addr) := []
def slotsUsed : Nat := 3
def theMethod : MethodId := ⟨1, 2⟩
def args0 : Array Value := #[.ref 0]
def aboutOver (below : List Frame) : State where
  vm := { classes := classes, interned := interned.toArray }
  heap := heap
  slotsUsed := slotsUsed
  threads := #[{ frames := .invoking theMethod args0 :: below }]
def below0 : List Frame := [.native { method := ⟨0, 0⟩, args := #[] }]
def about1 : State := aboutOver below0
def p0 : Program := .bare "" "" ""
def e0 : Env := launch0.env 0 0 0
theorem w_frames : about1.frames = Frame.invoking theMethod args0 :: below0 := rfl
set_option maxRecDepth 65536 in
theorem w_args : argsFit about1.vm theMethod args0 = true := by decide +kernel
set_option maxRecDepth 65536 in
theorem w_heap : heapFits about1 = true := by decide +kernel
set_option maxRecDepth 65536 in
theorem w_runnable : about1.curStatus? = some .runnable := by decide +kernel
set_option maxRecDepth 65536 in
theorem w_alone : about1.alone = true := by decide +kernel
set_option maxRecDepth 65536 in
theorem w_named : about1.methodNamed? x = some theMethod := by decide +kernel
set_option maxRecDepth 65536 in
theorem w_hears : about1.hears theMethod below0 = true := by decide +kernel
set_option maxRecDepth 65536 in
theorem w_ripe : about1.ripe theMethod args0 below0 = true := by decide +kernel
theorem w_running : about1.status = .running := rfl
set_option maxRecDepth 65536 in
theorem w_room : about1.hasRoom e0.platform room_1 = true :=
  launch0.hasRoom_least _ room_1 (by decide +kernel) (by decide +kernel) (by decide +kernel) (by decide +kernel) (by decide +kernel) (by decide +kernel)
theorem allAtoms_all (ts : List Jvm.Cond) (a : Array Jvm.Value) (st : Jvm.State) : (allAtoms ts).before a st = ts.all (fun c => c.before a st) := by
  induction ts with
  | nil => rfl
  | cons c t ih =>
    show (Jvm.Cond.and c (allAtoms t)).before a st = _
    rw [Jvm.Cond.before_and, ih, List.all_cons]
def words1 : List Jvm.Cond := Jvm.Cond.code x code maxLocals ret :: tables_1
/-- a 'code' word, met by the world's own term for the bytes: nothing is compared byte by byte -/
theorem code_word {y : MethodName} {bytes : ByteArray} {mx : Nat} {rt : Option FieldType} {a : Array Value} {s : State} {m : MethodId} {meth : Method} {c : Code} (h1 : s.methodNamed? y = some m) (h2 : s.vm.method? m = some meth) (h3 : meth.code = some c) (h4 : c.code = bytes)
    (h5 : (c.maxLocals == mx && c.exceptionTable.isEmpty && decide (c.maxStack ≤ mostOperands) && decide (meth.sig.returnType = rt) && !meth.locks && decide (parseMethodDescriptor y.desc = some meth.sig)) = true) : (Jvm.Cond.code y bytes mx rt).before a s = true := by
  simp only [Bool.and_eq_true, beq_iff_eq, Bool.not_eq_true', decide_eq_true_eq] at h5
  obtain ⟨⟨⟨⟨⟨g1, g2⟩, g3⟩, g4⟩, g5⟩, g6⟩ := h5
  simp [Cond.before, Cond.holds, Cond.value, h1, h2, h3, h4, g1, g2, g3, g4, g5, g6]
def isCode : Jvm.Cond → Bool
  | .code _ _ _ _ => true
  | _ => false
theorem all_split {L : List Jvm.Cond} {P : Jvm.Cond → Bool} (h1 : L.all (fun c => isCode c || P c) = true) (h2 : ∀ c ∈ L.filter isCode, P c = true) : L.all P = true := by
  refine List.all_eq_true.mpr fun c hc => ?_
  have h := List.all_eq_true.mp h1 c hc
  rcases Bool.eq_false_or_eq_true (isCode c) with hi | hi
  · exact h2 c (List.mem_filter.mpr ⟨hc, hi⟩)
  · simpa [hi] using h
set_option maxRecDepth 65536 in
theorem w_c0 : (Jvm.Cond.code x code maxLocals ret).before args0 about1 = true := code_word (m := ⟨1, 2⟩) (meth := k1m2) (c := k1c2) (by decide +kernel) rfl rfl rfl (by decide +kernel)
set_option maxRecDepth 65536 in
theorem w_c1 : (Jvm.Cond.code ({ cls := "PageCompactorY", name := "<init>", desc := "(II)V" } : Jvm.MethodName) prog_1_method_1_code (3 : Nat) (Option.none : Option Jvm.ClassFile.FieldType)).before args0 about1 = true := code_word (m := ⟨2, 0⟩) (meth := k2m0) (c := k2c0) (by decide +kernel) rfl rfl rfl (by decide +kernel)
set_option maxRecDepth 65536 in
theorem w_c2 : (Jvm.Cond.code ({ cls := "java/lang/Object", name := "<init>", desc := "()V" } : Jvm.MethodName) object_method_1_code (1 : Nat) (Option.none : Option Jvm.ClassFile.FieldType)).before args0 about1 = true := code_word (m := ⟨0, 0⟩) (meth := k0m0) (c := k0c0) (by decide +kernel) rfl rfl rfl (by decide +kernel)
set_option maxRecDepth 65536 in
theorem w_c3 : (Jvm.Cond.code ({ cls := "PageCompactorY", name := "clampInt", desc := "(III)I" } : Jvm.MethodName) prog_1_method_18_code (4 : Nat) (Option.some Jvm.ClassFile.FieldType.int)).before args0 about1 = true := code_word (m := ⟨2, 16⟩) (meth := k2m16) (c := k2c16) (by decide +kernel) rfl rfl rfl (by decide +kernel)
set_option maxRecDepth 65536 in
theorem w_c4 : (Jvm.Cond.code ({ cls := "PageCompactorY", name := "resetAll", desc := "()V" } : Jvm.MethodName) prog_1_method_24_code (2 : Nat) (Option.none : Option Jvm.ClassFile.FieldType)).before args0 about1 = true := code_word (m := ⟨2, 22⟩) (meth := k2m22) (c := k2c22) (by decide +kernel) rfl rfl rfl (by decide +kernel)
set_option maxRecDepth 65536 in
theorem w_c5 : (Jvm.Cond.code ({ cls := "PageCompactorY", name := "lowMask", desc := "(I)J" } : Jvm.MethodName) prog_1_method_42_code (2 : Nat) (Option.some Jvm.ClassFile.FieldType.long)).before args0 about1 = true := code_word (m := ⟨2, 40⟩) (meth := k2m40) (c := k2c40) (by decide +kernel) rfl rfl rfl (by decide +kernel)
set_option maxRecDepth 65536 in
theorem w_c6 : (Jvm.Cond.code ({ cls := "PageCompactorYL7", name := "step", desc := "(LPageCompactorY;IIII)V" } : Jvm.MethodName) method_2_code (8 : Nat) (Option.none : Option Jvm.ClassFile.FieldType)).before args0 about1 = true := code_word (m := ⟨1, 1⟩) (meth := k1m1) (c := k1c1) (by decide +kernel) rfl rfl rfl (by decide +kernel)
set_option maxRecDepth 65536 in
theorem w_c7 : (Jvm.Cond.code ({ cls := "PageCompactorY", name := "write", desc := "(III)Z" } : Jvm.MethodName) prog_1_method_5_code (5 : Nat) (Option.some Jvm.ClassFile.FieldType.boolean)).before args0 about1 = true := code_word (m := ⟨2, 4⟩) (meth := k2m4) (c := k2c4) (by decide +kernel) rfl rfl rfl (by decide +kernel)
set_option maxRecDepth 65536 in
theorem w_c8 : (Jvm.Cond.code ({ cls := "PageCompactorY", name := "mappedFrame", desc := "(II)I" } : Jvm.MethodName) prog_1_method_23_code (5 : Nat) (Option.some Jvm.ClassFile.FieldType.int)).before args0 about1 = true := code_word (m := ⟨2, 21⟩) (meth := k2m21) (c := k2c21) (by decide +kernel) rfl rfl rfl (by decide +kernel)
set_option maxRecDepth 65536 in
theorem w_c9 : (Jvm.Cond.code ({ cls := "PageCompactorY", name := "pageInRange", desc := "(II)Z" } : Jvm.MethodName) prog_1_method_19_code (3 : Nat) (Option.some Jvm.ClassFile.FieldType.boolean)).before args0 about1 = true := code_word (m := ⟨2, 17⟩) (meth := k2m17) (c := k2c17) (by decide +kernel) rfl rfl rfl (by decide +kernel)
set_option maxRecDepth 65536 in
theorem w_c10 : (Jvm.Cond.code ({ cls := "PageCompactorY", name := "slotOf", desc := "(II)I" } : Jvm.MethodName) prog_1_method_21_code (3 : Nat) (Option.some Jvm.ClassFile.FieldType.int)).before args0 about1 = true := code_word (m := ⟨2, 19⟩) (meth := k2m19) (c := k2c19) (by decide +kernel) rfl rfl rfl (by decide +kernel)
set_option maxRecDepth 65536 in
theorem w_c11 : (Jvm.Cond.code ({ cls := "PageCompactorY", name := "frameInRange", desc := "(I)Z" } : Jvm.MethodName) prog_1_method_20_code (2 : Nat) (Option.some Jvm.ClassFile.FieldType.boolean)).before args0 about1 = true := code_word (m := ⟨2, 18⟩) (meth := k2m18) (c := k2c18) (by decide +kernel) rfl rfl rfl (by decide +kernel)
set_option maxRecDepth 65536 in
theorem w_c12 : (Jvm.Cond.code ({ cls := "PageCompactorY", name := "share", desc := "(IIII)I" } : Jvm.MethodName) prog_1_method_3_code (8 : Nat) (Option.some Jvm.ClassFile.FieldType.int)).before args0 about1 = true := code_word (m := ⟨2, 2⟩) (meth := k2m2) (c := k2c2) (by decide +kernel) rfl rfl rfl (by decide +kernel)
set_option maxRecDepth 65536 in
theorem w_c13 : (Jvm.Cond.code ({ cls := "PageCompactorY", name := "mapNew", desc := "(III)I" } : Jvm.MethodName) prog_1_method_2_code (7 : Nat) (Option.some Jvm.ClassFile.FieldType.int)).before args0 about1 = true := code_word (m := ⟨2, 1⟩) (meth := k2m1) (c := k2c1) (by decide +kernel) rfl rfl rfl (by decide +kernel)
set_option maxRecDepth 65536 in
theorem w_c14 : (Jvm.Cond.code ({ cls := "PageCompactorY", name := "checkTarget", desc := "(II)I" } : Jvm.MethodName) prog_1_method_22_code (4 : Nat) (Option.some Jvm.ClassFile.FieldType.int)).before args0 about1 = true := code_word (m := ⟨2, 20⟩) (meth := k2m20) (c := k2c20) (by decide +kernel) rfl rfl rfl (by decide +kernel)
set_option maxRecDepth 65536 in
theorem w_c15 : (Jvm.Cond.code ({ cls := "PageCompactorY", name := "lowestBit", desc := "(J)I" } : Jvm.MethodName) prog_1_method_44_code (6 : Nat) (Option.some Jvm.ClassFile.FieldType.int)).before args0 about1 = true := code_word (m := ⟨2, 42⟩) (meth := k2m42) (c := k2c42) (by decide +kernel) rfl rfl rfl (by decide +kernel)
set_option maxRecDepth 65536 in
theorem w_c16 : (Jvm.Cond.code ({ cls := "PageCompactorY", name := "enterState", desc := "(II)V" } : Jvm.MethodName) prog_1_method_25_code (5 : Nat) (Option.none : Option Jvm.ClassFile.FieldType)).before args0 about1 = true := code_word (m := ⟨2, 23⟩) (meth := k2m23) (c := k2c23) (by decide +kernel) rfl rfl rfl (by decide +kernel)
set_option maxRecDepth 65536 in
theorem w_c17 : (Jvm.Cond.code ({ cls := "PageCompactorY", name := "bitOf", desc := "(I)J" } : Jvm.MethodName) prog_1_method_41_code (2 : Nat) (Option.some Jvm.ClassFile.FieldType.long)).before args0 about1 = true := code_word (m := ⟨2, 39⟩) (meth := k2m39) (c := k2c39) (by decide +kernel) rfl rfl rfl (by decide +kernel)
set_option maxRecDepth 65536 in
theorem w_c18 : (Jvm.Cond.code ({ cls := "PageCompactorY", name := "attachPage", desc := "(II)V" } : Jvm.MethodName) prog_1_method_29_code (3 : Nat) (Option.none : Option Jvm.ClassFile.FieldType)).before args0 about1 = true := code_word (m := ⟨2, 27⟩) (meth := k2m27) (c := k2c27) (by decide +kernel) rfl rfl rfl (by decide +kernel)
set_option maxRecDepth 65536 in
theorem w_c19 : (Jvm.Cond.code ({ cls := "PageCompactorY", name := "rmapLink", desc := "(II)V" } : Jvm.MethodName) prog_1_method_31_code (4 : Nat) (Option.none : Option Jvm.ClassFile.FieldType)).before args0 about1 = true := code_word (m := ⟨2, 29⟩) (meth := k2m29) (c := k2c29) (by decide +kernel) rfl rfl rfl (by decide +kernel)
set_option maxRecDepth 65536 in
theorem w_c20 : (Jvm.Cond.code ({ cls := "PageCompactorY", name := "unmap", desc := "(II)I" } : Jvm.MethodName) prog_1_method_4_code (5 : Nat) (Option.some Jvm.ClassFile.FieldType.int)).before args0 about1 = true := code_word (m := ⟨2, 3⟩) (meth := k2m3) (c := k2c3) (by decide +kernel) rfl rfl rfl (by decide +kernel)
set_option maxRecDepth 65536 in
theorem w_c21 : (Jvm.Cond.code ({ cls := "PageCompactorY", name := "detachPage", desc := "(I)I" } : Jvm.MethodName) prog_1_method_30_code (3 : Nat) (Option.some Jvm.ClassFile.FieldType.int)).before args0 about1 = true := code_word (m := ⟨2, 28⟩) (meth := k2m28) (c := k2c28) (by decide +kernel) rfl rfl rfl (by decide +kernel)
set_option maxRecDepth 65536 in
theorem w_c22 : (Jvm.Cond.code ({ cls := "PageCompactorY", name := "rmapUnlink", desc := "(I)I" } : Jvm.MethodName) prog_1_method_32_code (5 : Nat) (Option.some Jvm.ClassFile.FieldType.int)).before args0 about1 = true := code_word (m := ⟨2, 30⟩) (meth := k2m30) (c := k2c30) (by decide +kernel) rfl rfl rfl (by decide +kernel)
set_option maxRecDepth 65536 in
theorem w_c23 : (Jvm.Cond.code ({ cls := "PageCompactorY", name := "freeFrame", desc := "(I)V" } : Jvm.MethodName) prog_1_method_26_code (2 : Nat) (Option.none : Option Jvm.ClassFile.FieldType)).before args0 about1 = true := code_word (m := ⟨2, 24⟩) (meth := k2m24) (c := k2c24) (by decide +kernel) rfl rfl rfl (by decide +kernel)
set_option maxRecDepth 65536 in
theorem w_c24 : (Jvm.Cond.code ({ cls := "PageCompactorY", name := "compact", desc := "(I)I" } : Jvm.MethodName) prog_1_method_12_code (3 : Nat) (Option.some Jvm.ClassFile.FieldType.int)).before args0 about1 = true := code_word (m := ⟨2, 11⟩) (meth := k2m11) (c := k2c11) (by decide +kernel) rfl rfl rfl (by decide +kernel)
set_option maxRecDepth 65536 in
theorem w_c25 : (Jvm.Cond.code ({ cls := "PageCompactorY", name := "advanceMigrateScanner", desc := "()V" } : Jvm.MethodName) prog_1_method_37_code (5 : Nat) (Option.none : Option Jvm.ClassFile.FieldType)).before args0 about1 = true := code_word (m := ⟨2, 35⟩) (meth := k2m35) (c := k2c35) (by decide +kernel) rfl rfl rfl (by decide +kernel)
set_option maxRecDepth 65536 in
theorem w_c26 : (Jvm.Cond.code ({ cls := "PageCompactorY", name := "rangeMask", desc := "(II)J" } : Jvm.MethodName) prog_1_method_43_code (7 : Nat) (Option.some Jvm.ClassFile.FieldType.long)).before args0 about1 = true := code_word (m := ⟨2, 41⟩) (meth := k2m41) (c := k2c41) (by decide +kernel) rfl rfl rfl (by decide +kernel)
set_option maxRecDepth 65536 in
theorem w_c27 : (Jvm.Cond.code ({ cls := "PageCompactorY", name := "retreatFreeScanner", desc := "()V" } : Jvm.MethodName) prog_1_method_38_code (5 : Nat) (Option.none : Option Jvm.ClassFile.FieldType)).before args0 about1 = true := code_word (m := ⟨2, 36⟩) (meth := k2m36) (c := k2c36) (by decide +kernel) rfl rfl rfl (by decide +kernel)
set_option maxRecDepth 65536 in
theorem w_c28 : (Jvm.Cond.code ({ cls := "PageCompactorY", name := "scannersDone", desc := "()Z" } : Jvm.MethodName) prog_1_method_39_code (1 : Nat) (Option.some Jvm.ClassFile.FieldType.boolean)).before args0 about1 = true := code_word (m := ⟨2, 37⟩) (meth := k2m37) (c := k2c37) (by decide +kernel) rfl rfl rfl (by decide +kernel)
set_option maxRecDepth 65536 in
theorem w_c29 : (Jvm.Cond.code ({ cls := "PageCompactorY", name := "freeCount", desc := "()I" } : Jvm.MethodName) prog_1_method_16_code (1 : Nat) (Option.some Jvm.ClassFile.FieldType.int)).before args0 about1 = true := code_word (m := ⟨2, 15⟩) (meth := k2m15) (c := k2c15) (by decide +kernel) rfl rfl rfl (by decide +kernel)
set_option maxRecDepth 65536 in
theorem w_c30 : (Jvm.Cond.code ({ cls := "PageCompactorY", name := "bitCount", desc := "(J)I" } : Jvm.MethodName) prog_1_method_46_code (5 : Nat) (Option.some Jvm.ClassFile.FieldType.int)).before args0 about1 = true := code_word (m := ⟨2, 44⟩) (meth := k2m44) (c := k2c44) (by decide +kernel) rfl rfl rfl (by decide +kernel)
set_option maxRecDepth 65536 in
theorem w_c31 : (Jvm.Cond.code ({ cls := "PageCompactorY", name := "frameOf", desc := "(II)I" } : Jvm.MethodName) prog_1_method_7_code (4 : Nat) (Option.some Jvm.ClassFile.FieldType.int)).before args0 about1 = true := code_word (m := ⟨2, 6⟩) (meth := k2m6) (c := k2c6) (by decide +kernel) rfl rfl rfl (by decide +kernel)
set_option maxRecDepth 65536 in
theorem w_c32 : (Jvm.Cond.code ({ cls := "PageCompactorY", name := "read", desc := "(II)I" } : Jvm.MethodName) prog_1_method_6_code (4 : Nat) (Option.some Jvm.ClassFile.FieldType.int)).before args0 about1 = true := code_word (m := ⟨2, 5⟩) (meth := k2m5) (c := k2c5) (by decide +kernel) rfl rfl rfl (by decide +kernel)
set_option maxRecDepth 65536 in
theorem w_c33 : (Jvm.Cond.code ({ cls := "PageCompactorY", name := "mapCount", desc := "(I)I" } : Jvm.MethodName) prog_1_method_15_code (2 : Nat) (Option.some Jvm.ClassFile.FieldType.int)).before args0 about1 = true := code_word (m := ⟨2, 14⟩) (meth := k2m14) (c := k2c14) (by decide +kernel) rfl rfl rfl (by decide +kernel)
set_option maxRecDepth 65536 in
theorem w_c34 : (Jvm.Cond.code ({ cls := "PageCompactorY", name := "frameState", desc := "(I)I" } : Jvm.MethodName) prog_1_method_13_code (2 : Nat) (Option.some Jvm.ClassFile.FieldType.int)).before args0 about1 = true := code_word (m := ⟨2, 12⟩) (meth := k2m12) (c := k2c12) (by decide +kernel) rfl rfl rfl (by decide +kernel)
set_option maxRecDepth 65536 in
theorem w_c35 : (Jvm.Cond.code ({ cls := "PageCompactorY", name := "frameValue", desc := "(I)I" } : Jvm.MethodName) prog_1_method_14_code (3 : Nat) (Option.some Jvm.ClassFile.FieldType.int)).before args0 about1 = true := code_word (m := ⟨2, 13⟩) (meth := k2m13) (c := k2c13) (by decide +kernel) rfl rfl rfl (by decide +kernel)
set_option maxRecDepth 65536 in
theorem w_c36 : (Jvm.Cond.code ({ cls := "PageCompactorY", name := "unpin", desc := "(I)Z" } : Jvm.MethodName) prog_1_method_9_code (2 : Nat) (Option.some Jvm.ClassFile.FieldType.boolean)).before args0 about1 = true := code_word (m := ⟨2, 8⟩) (meth := k2m8) (c := k2c8) (by decide +kernel) rfl rfl rfl (by decide +kernel)
set_option maxRecDepth 65536 in
theorem w_c37 : (Jvm.Cond.code ({ cls := "PageCompactorY", name := "release", desc := "(I)Z" } : Jvm.MethodName) prog_1_method_11_code (2 : Nat) (Option.some Jvm.ClassFile.FieldType.boolean)).before args0 about1 = true := code_word (m := ⟨2, 10⟩) (meth := k2m10) (c := k2c10) (by decide +kernel) rfl rfl rfl (by decide +kernel)
set_option maxRecDepth 65536 in
theorem w_c38 : (Jvm.Cond.code ({ cls := "PageCompactorY", name := "pin", desc := "(I)Z" } : Jvm.MethodName) prog_1_method_8_code (2 : Nat) (Option.some Jvm.ClassFile.FieldType.boolean)).before args0 about1 = true := code_word (m := ⟨2, 7⟩) (meth := k2m7) (c := k2c7) (by decide +kernel) rfl rfl rfl (by decide +kernel)
set_option maxRecDepth 65536 in
theorem w_c39 : (Jvm.Cond.code ({ cls := "PageCompactorY", name := "highestBit", desc := "(J)I" } : Jvm.MethodName) prog_1_method_45_code (6 : Nat) (Option.some Jvm.ClassFile.FieldType.int)).before args0 about1 = true := code_word (m := ⟨2, 43⟩) (meth := k2m43) (c := k2c43) (by decide +kernel) rfl rfl rfl (by decide +kernel)
set_option maxRecDepth 65536 in
theorem w_c40 : (Jvm.Cond.code ({ cls := "PageCompactorY", name := "migrateFrame", desc := "(II)V" } : Jvm.MethodName) prog_1_method_40_code (5 : Nat) (Option.none : Option Jvm.ClassFile.FieldType)).before args0 about1 = true := code_word (m := ⟨2, 38⟩) (meth := k2m38) (c := k2c38) (by decide +kernel) rfl rfl rfl (by decide +kernel)
set_option maxRecDepth 65536 in
theorem w_c41 : (Jvm.Cond.code ({ cls := "PageCompactorY", name := "rmapTransfer", desc := "(II)V" } : Jvm.MethodName) prog_1_method_33_code (5 : Nat) (Option.none : Option Jvm.ClassFile.FieldType)).before args0 about1 = true := code_word (m := ⟨2, 31⟩) (meth := k2m31) (c := k2c31) (by decide +kernel) rfl rfl rfl (by decide +kernel)
set_option maxRecDepth 65536 in
theorem w_c42 : (Jvm.Cond.code ({ cls := "PageCompactorY", name := "allocBlock", desc := "(I)I" } : Jvm.MethodName) prog_1_method_10_code (5 : Nat) (Option.some Jvm.ClassFile.FieldType.int)).before args0 about1 = true := code_word (m := ⟨2, 9⟩) (meth := k2m9) (c := k2c9) (by decide +kernel) rfl rfl rfl (by decide +kernel)
set_option maxRecDepth 65536 in
theorem w_c43 : (Jvm.Cond.code ({ cls := "PageCompactorY", name := "freeRunsOfOrder", desc := "(I)J" } : Jvm.MethodName) prog_1_method_34_code (2 : Nat) (Option.some Jvm.ClassFile.FieldType.long)).before args0 about1 = true := code_word (m := ⟨2, 32⟩) (meth := k2m32) (c := k2c32) (by decide +kernel) rfl rfl rfl (by decide +kernel)
set_option maxRecDepth 65536 in
theorem w_c44 : (Jvm.Cond.code ({ cls := "PageCompactorY", name := "refreshRuns", desc := "()V" } : Jvm.MethodName) prog_1_method_35_code (7 : Nat) (Option.none : Option Jvm.ClassFile.FieldType)).before args0 about1 = true := code_word (m := ⟨2, 33⟩) (meth := k2m33) (c := k2c33) (by decide +kernel) rfl rfl rfl (by decide +kernel)
set_option maxRecDepth 65536 in
theorem w_c45 : (Jvm.Cond.code ({ cls := "PageCompactorY", name := "alignMask", desc := "(I)J" } : Jvm.MethodName) prog_1_method_36_code (2 : Nat) (Option.some Jvm.ClassFile.FieldType.long)).before args0 about1 = true := code_word (m := ⟨2, 34⟩) (meth := k2m34) (c := k2c34) (by decide +kernel) rfl rfl rfl (by decide +kernel)
set_option maxRecDepth 65536 in
theorem w_c46 : (Jvm.Cond.code ({ cls := "PageCompactorY", name := "reserveRun", desc := "(II)V" } : Jvm.MethodName) prog_1_method_28_code (5 : Nat) (Option.none : Option Jvm.ClassFile.FieldType)).before args0 about1 = true := code_word (m := ⟨2, 26⟩) (meth := k2m26) (c := k2c26) (by decide +kernel) rfl rfl rfl (by decide +kernel)
set_option maxRecDepth 65536 in
theorem w_c47 : (Jvm.Cond.code ({ cls := "PageCompactorY", name := "reserveFrame", desc := "(I)V" } : Jvm.MethodName) prog_1_method_27_code (2 : Nat) (Option.none : Option Jvm.ClassFile.FieldType)).before args0 about1 = true := code_word (m := ⟨2, 25⟩) (meth := k2m25) (c := k2c25) (by decide +kernel) rfl rfl rfl (by decide +kernel)
def codes1 : List Jvm.Cond := [Jvm.Cond.code x code maxLocals ret, Jvm.Cond.code ({ cls := "PageCompactorY", name := "<init>", desc := "(II)V" } : Jvm.MethodName) prog_1_method_1_code (3 : Nat) (Option.none : Option Jvm.ClassFile.FieldType), Jvm.Cond.code ({ cls := "java/lang/Object", name := "<init>", desc := "()V" } : Jvm.MethodName) object_method_1_code (1 : Nat) (Option.none : Option Jvm.ClassFile.FieldType), Jvm.Cond.code ({ cls := "PageCompactorY", name := "clampInt", desc := "(III)I" } : Jvm.MethodName) prog_1_method_18_code (4 : Nat) (Option.some Jvm.ClassFile.FieldType.int), Jvm.Cond.code ({ cls := "PageCompactorY", name := "resetAll", desc := "()V" } : Jvm.MethodName) prog_1_method_24_code (2 : Nat) (Option.none : Option Jvm.ClassFile.FieldType), Jvm.Cond.code ({ cls := "PageCompactorY", name := "lowMask", desc := "(I)J" } : Jvm.MethodName) prog_1_method_42_code (2 : Nat) (Option.some Jvm.ClassFile.FieldType.long), Jvm.Cond.code ({ cls := "PageCompactorYL7", name := "step", desc := "(LPageCompactorY;IIII)V" } : Jvm.MethodName) method_2_code (8 : Nat) (Option.none : Option Jvm.ClassFile.FieldType), Jvm.Cond.code ({ cls := "PageCompactorY", name := "write", desc := "(III)Z" } : Jvm.MethodName) prog_1_method_5_code (5 : Nat) (Option.some Jvm.ClassFile.FieldType.boolean), Jvm.Cond.code ({ cls := "PageCompactorY", name := "mappedFrame", desc := "(II)I" } : Jvm.MethodName) prog_1_method_23_code (5 : Nat) (Option.some Jvm.ClassFile.FieldType.int), Jvm.Cond.code ({ cls := "PageCompactorY", name := "pageInRange", desc := "(II)Z" } : Jvm.MethodName) prog_1_method_19_code (3 : Nat) (Option.some Jvm.ClassFile.FieldType.boolean), Jvm.Cond.code ({ cls := "PageCompactorY", name := "slotOf", desc := "(II)I" } : Jvm.MethodName) prog_1_method_21_code (3 : Nat) (Option.some Jvm.ClassFile.FieldType.int), Jvm.Cond.code ({ cls := "PageCompactorY", name := "frameInRange", desc := "(I)Z" } : Jvm.MethodName) prog_1_method_20_code (2 : Nat) (Option.some Jvm.ClassFile.FieldType.boolean), Jvm.Cond.code ({ cls := "PageCompactorY", name := "share", desc := "(IIII)I" } : Jvm.MethodName) prog_1_method_3_code (8 : Nat) (Option.some Jvm.ClassFile.FieldType.int), Jvm.Cond.code ({ cls := "PageCompactorY", name := "mapNew", desc := "(III)I" } : Jvm.MethodName) prog_1_method_2_code (7 : Nat) (Option.some Jvm.ClassFile.FieldType.int), Jvm.Cond.code ({ cls := "PageCompactorY", name := "checkTarget", desc := "(II)I" } : Jvm.MethodName) prog_1_method_22_code (4 : Nat) (Option.some Jvm.ClassFile.FieldType.int), Jvm.Cond.code ({ cls := "PageCompactorY", name := "lowestBit", desc := "(J)I" } : Jvm.MethodName) prog_1_method_44_code (6 : Nat) (Option.some Jvm.ClassFile.FieldType.int), Jvm.Cond.code ({ cls := "PageCompactorY", name := "enterState", desc := "(II)V" } : Jvm.MethodName) prog_1_method_25_code (5 : Nat) (Option.none : Option Jvm.ClassFile.FieldType), Jvm.Cond.code ({ cls := "PageCompactorY", name := "bitOf", desc := "(I)J" } : Jvm.MethodName) prog_1_method_41_code (2 : Nat) (Option.some Jvm.ClassFile.FieldType.long), Jvm.Cond.code ({ cls := "PageCompactorY", name := "attachPage", desc := "(II)V" } : Jvm.MethodName) prog_1_method_29_code (3 : Nat) (Option.none : Option Jvm.ClassFile.FieldType), Jvm.Cond.code ({ cls := "PageCompactorY", name := "rmapLink", desc := "(II)V" } : Jvm.MethodName) prog_1_method_31_code (4 : Nat) (Option.none : Option Jvm.ClassFile.FieldType), Jvm.Cond.code ({ cls := "PageCompactorY", name := "unmap", desc := "(II)I" } : Jvm.MethodName) prog_1_method_4_code (5 : Nat) (Option.some Jvm.ClassFile.FieldType.int), Jvm.Cond.code ({ cls := "PageCompactorY", name := "detachPage", desc := "(I)I" } : Jvm.MethodName) prog_1_method_30_code (3 : Nat) (Option.some Jvm.ClassFile.FieldType.int), Jvm.Cond.code ({ cls := "PageCompactorY", name := "rmapUnlink", desc := "(I)I" } : Jvm.MethodName) prog_1_method_32_code (5 : Nat) (Option.some Jvm.ClassFile.FieldType.int), Jvm.Cond.code ({ cls := "PageCompactorY", name := "freeFrame", desc := "(I)V" } : Jvm.MethodName) prog_1_method_26_code (2 : Nat) (Option.none : Option Jvm.ClassFile.FieldType), Jvm.Cond.code ({ cls := "PageCompactorY", name := "compact", desc := "(I)I" } : Jvm.MethodName) prog_1_method_12_code (3 : Nat) (Option.some Jvm.ClassFile.FieldType.int), Jvm.Cond.code ({ cls := "PageCompactorY", name := "advanceMigrateScanner", desc := "()V" } : Jvm.MethodName) prog_1_method_37_code (5 : Nat) (Option.none : Option Jvm.ClassFile.FieldType), Jvm.Cond.code ({ cls := "PageCompactorY", name := "rangeMask", desc := "(II)J" } : Jvm.MethodName) prog_1_method_43_code (7 : Nat) (Option.some Jvm.ClassFile.FieldType.long), Jvm.Cond.code ({ cls := "PageCompactorY", name := "retreatFreeScanner", desc := "()V" } : Jvm.MethodName) prog_1_method_38_code (5 : Nat) (Option.none : Option Jvm.ClassFile.FieldType), Jvm.Cond.code ({ cls := "PageCompactorY", name := "scannersDone", desc := "()Z" } : Jvm.MethodName) prog_1_method_39_code (1 : Nat) (Option.some Jvm.ClassFile.FieldType.boolean), Jvm.Cond.code ({ cls := "PageCompactorY", name := "freeCount", desc := "()I" } : Jvm.MethodName) prog_1_method_16_code (1 : Nat) (Option.some Jvm.ClassFile.FieldType.int), Jvm.Cond.code ({ cls := "PageCompactorY", name := "bitCount", desc := "(J)I" } : Jvm.MethodName) prog_1_method_46_code (5 : Nat) (Option.some Jvm.ClassFile.FieldType.int), Jvm.Cond.code ({ cls := "PageCompactorY", name := "frameOf", desc := "(II)I" } : Jvm.MethodName) prog_1_method_7_code (4 : Nat) (Option.some Jvm.ClassFile.FieldType.int), Jvm.Cond.code ({ cls := "PageCompactorY", name := "read", desc := "(II)I" } : Jvm.MethodName) prog_1_method_6_code (4 : Nat) (Option.some Jvm.ClassFile.FieldType.int), Jvm.Cond.code ({ cls := "PageCompactorY", name := "mapCount", desc := "(I)I" } : Jvm.MethodName) prog_1_method_15_code (2 : Nat) (Option.some Jvm.ClassFile.FieldType.int), Jvm.Cond.code ({ cls := "PageCompactorY", name := "frameState", desc := "(I)I" } : Jvm.MethodName) prog_1_method_13_code (2 : Nat) (Option.some Jvm.ClassFile.FieldType.int), Jvm.Cond.code ({ cls := "PageCompactorY", name := "frameValue", desc := "(I)I" } : Jvm.MethodName) prog_1_method_14_code (3 : Nat) (Option.some Jvm.ClassFile.FieldType.int), Jvm.Cond.code ({ cls := "PageCompactorY", name := "unpin", desc := "(I)Z" } : Jvm.MethodName) prog_1_method_9_code (2 : Nat) (Option.some Jvm.ClassFile.FieldType.boolean), Jvm.Cond.code ({ cls := "PageCompactorY", name := "release", desc := "(I)Z" } : Jvm.MethodName) prog_1_method_11_code (2 : Nat) (Option.some Jvm.ClassFile.FieldType.boolean), Jvm.Cond.code ({ cls := "PageCompactorY", name := "pin", desc := "(I)Z" } : Jvm.MethodName) prog_1_method_8_code (2 : Nat) (Option.some Jvm.ClassFile.FieldType.boolean), Jvm.Cond.code ({ cls := "PageCompactorY", name := "highestBit", desc := "(J)I" } : Jvm.MethodName) prog_1_method_45_code (6 : Nat) (Option.some Jvm.ClassFile.FieldType.int), Jvm.Cond.code ({ cls := "PageCompactorY", name := "migrateFrame", desc := "(II)V" } : Jvm.MethodName) prog_1_method_40_code (5 : Nat) (Option.none : Option Jvm.ClassFile.FieldType), Jvm.Cond.code ({ cls := "PageCompactorY", name := "rmapTransfer", desc := "(II)V" } : Jvm.MethodName) prog_1_method_33_code (5 : Nat) (Option.none : Option Jvm.ClassFile.FieldType), Jvm.Cond.code ({ cls := "PageCompactorY", name := "allocBlock", desc := "(I)I" } : Jvm.MethodName) prog_1_method_10_code (5 : Nat) (Option.some Jvm.ClassFile.FieldType.int), Jvm.Cond.code ({ cls := "PageCompactorY", name := "freeRunsOfOrder", desc := "(I)J" } : Jvm.MethodName) prog_1_method_34_code (2 : Nat) (Option.some Jvm.ClassFile.FieldType.long), Jvm.Cond.code ({ cls := "PageCompactorY", name := "refreshRuns", desc := "()V" } : Jvm.MethodName) prog_1_method_35_code (7 : Nat) (Option.none : Option Jvm.ClassFile.FieldType), Jvm.Cond.code ({ cls := "PageCompactorY", name := "alignMask", desc := "(I)J" } : Jvm.MethodName) prog_1_method_36_code (2 : Nat) (Option.some Jvm.ClassFile.FieldType.long), Jvm.Cond.code ({ cls := "PageCompactorY", name := "reserveRun", desc := "(II)V" } : Jvm.MethodName) prog_1_method_28_code (5 : Nat) (Option.none : Option Jvm.ClassFile.FieldType), Jvm.Cond.code ({ cls := "PageCompactorY", name := "reserveFrame", desc := "(I)V" } : Jvm.MethodName) prog_1_method_27_code (2 : Nat) (Option.none : Option Jvm.ClassFile.FieldType)]
set_option maxRecDepth 65536 in
theorem codes_eq : words1.filter isCode = codes1 := rfl
theorem w_codes : ∀ c ∈ words1.filter isCode, c.before args0 about1 = true := by
  rw [codes_eq]
  intro c hc
  simp only [codes1, List.mem_cons, List.not_mem_nil, or_false] at hc
  rcases hc with rfl | rfl | rfl | rfl | rfl | rfl | rfl | rfl | rfl | rfl | rfl | rfl | rfl | rfl | rfl | rfl | rfl | rfl | rfl | rfl | rfl | rfl | rfl | rfl | rfl | rfl | rfl | rfl | rfl | rfl | rfl | rfl | rfl | rfl | rfl | rfl | rfl | rfl | rfl | rfl | rfl | rfl | rfl | rfl | rfl | rfl | rfl | rfl
  · exact w_c0
  · exact w_c1
  · exact w_c2
  · exact w_c3
  · exact w_c4
  · exact w_c5
  · exact w_c6
  · exact w_c7
  · exact w_c8
  · exact w_c9
  · exact w_c10
  · exact w_c11
  · exact w_c12
  · exact w_c13
  · exact w_c14
  · exact w_c15
  · exact w_c16
  · exact w_c17
  · exact w_c18
  · exact w_c19
  · exact w_c20
  · exact w_c21
  · exact w_c22
  · exact w_c23
  · exact w_c24
  · exact w_c25
  · exact w_c26
  · exact w_c27
  · exact w_c28
  · exact w_c29
  · exact w_c30
  · exact w_c31
  · exact w_c32
  · exact w_c33
  · exact w_c34
  · exact w_c35
  · exact w_c36
  · exact w_c37
  · exact w_c38
  · exact w_c39
  · exact w_c40
  · exact w_c41
  · exact w_c42
  · exact w_c43
  · exact w_c44
  · exact w_c45
  · exact w_c46
  · exact w_c47
set_option maxRecDepth 65536 in
theorem w_t1 : (words1.take 24).all (fun c => isCode c || c.before args0 about1) = true := by decide +kernel
set_option maxRecDepth 65536 in
theorem w_t2 : ((words1.drop 24).take 24).all (fun c => isCode c || c.before args0 about1) = true := by decide +kernel
set_option maxRecDepth 65536 in
theorem w_t3 : (((words1.drop 24).drop 24).take 24).all (fun c => isCode c || c.before args0 about1) = true := by decide +kernel
set_option maxRecDepth 65536 in
theorem w_t4 : ((((words1.drop 24).drop 24).drop 24).take 24).all (fun c => isCode c || c.before args0 about1) = true := by decide +kernel
set_option maxRecDepth 65536 in
theorem w_t5 : (((((words1.drop 24).drop 24).drop 24).drop 24).take 24).all (fun c => isCode c || c.before args0 about1) = true := by decide +kernel
set_option maxRecDepth 65536 in
theorem w_t6 : ((((((words1.drop 24).drop 24).drop 24).drop 24).drop 24).take 24).all (fun c => isCode c || c.before args0 about1) = true := by decide +kernel
set_option maxRecDepth 65536 in
theorem w_t7 : (((((((words1.drop 24).drop 24).drop 24).drop 24).drop 24).drop 24).take 24).all (fun c => isCode c || c.before args0 about1) = true := by decide +kernel
set_option maxRecDepth 65536 in
theorem w_t8 : ((((((((words1.drop 24).drop 24).drop 24).drop 24).drop 24).drop 24).drop 24).take 24).all (fun c => isCode c || c.before args0 about1) = true := by decide +kernel
set_option maxRecDepth 65536 in
theorem w_t9 : (((((((((words1.drop 24).drop 24).drop 24).drop 24).drop 24).drop 24).drop 24).drop 24).take 24).all (fun c => isCode c || c.before args0 about1) = true := by decide +kernel
set_option maxRecDepth 65536 in
theorem w_t10 : ((((((((((words1.drop 24).drop 24).drop 24).drop 24).drop 24).drop 24).drop 24).drop 24).drop 24).take 24).all (fun c => isCode c || c.before args0 about1) = true := by decide +kernel
set_option maxRecDepth 65536 in
theorem w_t11 : ((((((((((words1.drop 24).drop 24).drop 24).drop 24).drop 24).drop 24).drop 24).drop 24).drop 24).drop 24).all (fun c => isCode c || c.before args0 about1) = true := by decide +kernel
theorem w_tables : (allAtoms (Jvm.Cond.code x code maxLocals ret :: tables_1)).before args0 about1 = true := by
  rw [allAtoms_all]
  show words1.all (fun c => c.before args0 about1) = true
  refine all_split ?_ w_codes
  rw [← List.take_append_drop 24 words1, List.all_append, w_t1, ← List.take_append_drop 24 (words1.drop 24), List.all_append, w_t2, ← List.take_append_drop 24 ((words1.drop 24).drop 24), List.all_append, w_t3, ← List.take_append_drop 24 (((words1.drop 24).drop 24).drop 24), List.all_append, w_t4, ← List.take_append_drop 24 ((((words1.drop 24).drop 24).drop 24).drop 24), List.all_append, w_t5, ← List.take_append_drop 24 (((((words1.drop 24).drop 24).drop 24).drop 24).drop 24), List.all_append, w_t6, ← List.take_append_drop 24 ((((((words1.drop 24).drop 24).drop 24).drop 24).drop 24).drop 24), List.all_append, w_t7, ← List.take_append_drop 24 (((((((words1.drop 24).drop 24).drop 24).drop 24).drop 24).drop 24).drop 24), List.all_append, w_t8, ← List.take_append_drop 24 ((((((((words1.drop 24).drop 24).drop 24).drop 24).drop 24).drop 24).drop 24).drop 24), List.all_append, w_t9, ← List.take_append_drop 24 (((((((((words1.drop 24).drop 24).drop 24).drop 24).drop 24).drop 24).drop 24).drop 24).drop 24), List.all_append, w_t10, w_t11]
  rfl
set_option maxRecDepth 65536 in
theorem w_rest : rest_1_c.before args0 about1 = true := by decide +kernel
set_option maxRecDepth 65536 in
theorem w_case : (Jvm.Cond.and given_1 narrow_1).before args0 about1 = true := by decide +kernel
theorem w_applies : (headSpec (Jvm.Cond.code x code maxLocals ret :: tables_1) room_1).applies x e0.platform about1 = true :=
  (Spec.applies_iff w_frames).mpr ⟨w_running, w_runnable, w_alone, w_named, w_hears, w_ripe, w_room, w_tables⟩
theorem atStart : AtStart classFile x code maxLocals ret World_1 tables_1 room_1 Calls_1 rest_1 Pre_1 launch0 p0 e0 about1 theMethod args0 below0 :=
  ⟨lists_1, trivial, launch0.admits_env _ _ _, launch0.least_env, fairChoices_fair.cas, fairChoices_fair.clock, w_frames, w_args, w_heap, w_applies, trivial, w_rest, w_case⟩
end start1
theorem witness_1 : WitnessClaimed_1 := ⟨start1.p0, start1.e0, start1.about1, start1.theMethod, start1.args0, start1.below0, start1.atStart⟩
end Jvm.Pilot.@@N@@
