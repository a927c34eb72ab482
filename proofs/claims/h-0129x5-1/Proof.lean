import JvmDerived
import JvmDerived.Pilot.@@N@@Statement
import JvmDerived.Pilot.@@N@@Code
set_option linter.unusedVariables false
set_option linter.unusedSimpArgs false
namespace Jvm.AM
open Sem ClassFile Op Lib Jvm.Stand Jvm.Free Jvm.LawKit Jvm.RoadKit
/-! ## 1. The abstract objects: one object of the class, its scalars and its arrays by number -/
abbrev S : Type := (Nat → Int32) × (Nat → Int64) × (Nat → List Int32) × (Nat → List Int64)
def upd {A : Type} (g : Nat → A) (f : Nat) (v : A) : Nat → A := fun x => if x = f then v else g x
def gI (s : S) (f : Nat) : Int32 := s.1 f
def gL (s : S) (f : Nat) : Int64 := s.2.1 f
def gA (s : S) (f : Nat) : List Int32 := s.2.2.1 f
def gB (s : S) (f : Nat) : List Int64 := s.2.2.2 f
def sI (s : S) (f : Nat) (v : Int32) : S := (upd s.1 f v, s.2)
def sL (s : S) (f : Nat) (v : Int64) : S := (s.1, upd s.2.1 f v, s.2.2)
def sA (s : S) (f : Nat) (v : List Int32) : S := (s.1, s.2.1, upd s.2.2.1 f v, s.2.2.2)
def sB (s : S) (f : Nat) (v : List Int64) : S := (s.1, s.2.1, s.2.2.1, upd s.2.2.2 f v)
def s0 : S := (fun _ => 0, fun _ => 0, fun _ => [], fun _ => [])
theorem gI_s0 (f : Nat) : gI s0 f = 0 := by simp only [gI, s0]
theorem gL_s0 (f : Nat) : gL s0 f = 0 := by simp only [gL, s0]
theorem gA_s0 (f : Nat) : gA s0 f = [] := by simp only [gA, s0]
theorem gB_s0 (f : Nat) : gB s0 f = [] := by simp only [gB, s0]
theorem gI_sI (s : S) (f g : Nat) (v : Int32) : gI (sI s f v) g = if g = f then v else gI s g := by simp only [gI, gL, gA, gB, sI, sL, sA, sB, upd]
theorem gI_sL (s : S) (f g : Nat) (v : Int64) : gI (sL s f v) g = gI s g := by simp only [gI, gL, gA, gB, sI, sL, sA, sB, upd]
theorem gI_sA (s : S) (f g : Nat) (v : List Int32) : gI (sA s f v) g = gI s g := by simp only [gI, gL, gA, gB, sI, sL, sA, sB, upd]
theorem gI_sB (s : S) (f g : Nat) (v : List Int64) : gI (sB s f v) g = gI s g := by simp only [gI, gL, gA, gB, sI, sL, sA, sB, upd]
theorem gL_sI (s : S) (f g : Nat) (v : Int32) : gL (sI s f v) g = gL s g := by simp only [gI, gL, gA, gB, sI, sL, sA, sB, upd]
theorem gL_sL (s : S) (f g : Nat) (v : Int64) : gL (sL s f v) g = if g = f then v else gL s g := by simp only [gI, gL, gA, gB, sI, sL, sA, sB, upd]
theorem gL_sA (s : S) (f g : Nat) (v : List Int32) : gL (sA s f v) g = gL s g := by simp only [gI, gL, gA, gB, sI, sL, sA, sB, upd]
theorem gL_sB (s : S) (f g : Nat) (v : List Int64) : gL (sB s f v) g = gL s g := by simp only [gI, gL, gA, gB, sI, sL, sA, sB, upd]
theorem gA_sI (s : S) (f g : Nat) (v : Int32) : gA (sI s f v) g = gA s g := by simp only [gI, gL, gA, gB, sI, sL, sA, sB, upd]
theorem gA_sL (s : S) (f g : Nat) (v : Int64) : gA (sL s f v) g = gA s g := by simp only [gI, gL, gA, gB, sI, sL, sA, sB, upd]
theorem gA_sA (s : S) (f g : Nat) (v : List Int32) : gA (sA s f v) g = if g = f then v else gA s g := by simp only [gI, gL, gA, gB, sI, sL, sA, sB, upd]
theorem gA_sB (s : S) (f g : Nat) (v : List Int64) : gA (sB s f v) g = gA s g := by simp only [gI, gL, gA, gB, sI, sL, sA, sB, upd]
theorem gB_sI (s : S) (f g : Nat) (v : Int32) : gB (sI s f v) g = gB s g := by simp only [gI, gL, gA, gB, sI, sL, sA, sB, upd]
theorem gB_sL (s : S) (f g : Nat) (v : Int64) : gB (sL s f v) g = gB s g := by simp only [gI, gL, gA, gB, sI, sL, sA, sB, upd]
theorem gB_sA (s : S) (f g : Nat) (v : List Int32) : gB (sA s f v) g = gB s g := by simp only [gI, gL, gA, gB, sI, sL, sA, sB, upd]
theorem gB_sB (s : S) (f g : Nat) (v : List Int64) : gB (sB s f v) g = if g = f then v else gB s g := by simp only [gI, gL, gA, gB, sI, sL, sA, sB, upd]
def rep {A : Type} (n : Nat) (x : A) : List A := List.replicate n x
theorem rep_length {A : Type} (n : Nat) (x : A) : (rep n x).length = n := by simp only [rep, List.length_replicate]
theorem rep_get {A : Type} (n : Nat) (x : A) (k : Nat) : (rep n x)[k]? = if k < n then some x else none := by simp only [rep, List.getElem?_replicate]
theorem rep_set {A : Type} (n : Nat) (x : A) (k : Nat) : (rep n x).set k x = rep n x := by simp only [rep, List.set_replicate_self]
/-- reading and writing a component -/
def ix {A : Type} (l : List A) (j : Int32) : Option A := if j < 0 then none else l[j.toNatClampNeg]?
def st {A : Type} (l : List A) (j : Int32) (x : A) : Option (List A) := if j < 0 then none else if j.toNatClampNeg < l.length then some (l.set j.toNatClampNeg x) else none
/-- the world of a run: the script array, if there is one; the objects made so far, each with the number of arrays that it has been given -/
abbrev W : Type := Option (List Int32) × List (Nat × S)
/-- the class: name, slots, scalar fields (name, descriptor, type), array fields in the order of their making (name, descriptor, component type, most slots) -/
abbrev CI : Type := String × Nat × List (String × String × FieldType) × List (String × String × FieldType × Nat)
def cN (c : CI) : String := c.1
def cF (c : CI) : Nat := c.2.1
def cS (c : CI) : List (String × String × FieldType) := c.2.2.1
def cA (c : CI) : List (String × String × FieldType × Nat) := c.2.2.2
def cK (c : CI) : Nat := (cA c).length
/-- the program: the sheet's words, the class -/
abbrev PI : Type := List Jvm.Cond × CI
/-- a method: name, bytes, variables, return type, room, most objects, whether it makes cells, cells and slots at its start -/
abbrev Meth : Type := MethodName × ByteArray × Nat × Option FieldType × Room × Nat × Bool × Nat × Nat
def mY (M : Meth) : MethodName := M.1
def mB (M : Meth) : ByteArray := M.2.1
def mL (M : Meth) : Nat := M.2.2.1
def mT (M : Meth) : Option FieldType := M.2.2.2.1
def mR (M : Meth) : Room := M.2.2.2.2.1
def mN (M : Meth) : Nat := M.2.2.2.2.2.1
def mTop (M : Meth) : Bool := M.2.2.2.2.2.2.1
def mUC (M : Meth) : Nat := M.2.2.2.2.2.2.2.1
def mUS (M : Meth) : Nat := M.2.2.2.2.2.2.2.2
/-! ## 2. Abstract references: 0 the script; j + 1 the cell at b + j -/
def con (α b : Nat) : Value → Value
  | .ref 0 => .ref α
  | .ref (j + 1) => .ref (b + j)
  | v => v
def cs (α b : Nat) : Slot → Slot
  | .val v => .val (con α b v)
  | .unset => .unset
  | .second => .second
def cL (α b : Nat) (L : List Slot) : Array Slot := (L.map (cs α b)).toArray
def cV (α b : Nat) (l : List Value) : List Value := l.map (con α b)
theorem con_cat (α b : Nat) (v : Value) : (con α b v).category = v.category := by
  cases v <;> try rfl
  rename_i a; cases a <;> rfl
theorem con_ref (α b : Nat) (v : Value) : (con α b v).isRef = v.isRef := by
  cases v <;> try rfl
  rename_i a; cases a <;> rfl
theorem cL_get {α b : Nat} {L : List Slot} {k : Nat} {x : Slot} (h : L[k]? = some x) : (cL α b L)[k]? = some (cs α b x) := by
  simp [cL, List.getElem?_toArray, List.getElem?_map, h]
theorem cL_size (α b : Nat) (L : List Slot) : (cL α b L).size = L.length := by simp [cL]
theorem cV_sum (α b : Nat) (l : List Value) : ((cV α b l).map fun v => v.category).sum = (l.map fun v => v.category).sum := by
  simp [cV, List.map_map, Function.comp_def, con_cat]
theorem setAt_map {α b : Nat} {l l' : Array Slot} {i : Nat} {x : Slot} (h : setAt l i x = some l') : setAt (l.map (cs α b)) i (cs α b x) = some (l'.map (cs α b)) := by
  unfold setAt at h ⊢
  split at h
  · rename_i q
    cases h
    rw [if_pos (by simpa using q)]
    simp [Array.map_setIfInBounds]
  · cases h
theorem storeSelf_map {α b : Nat} {l l' : Array Slot} {i : Nat} {v : Value} (h : storeSelf l i v = some l') : storeSelf (l.map (cs α b)) i (con α b v) = some (l'.map (cs α b)) := by
  simp only [storeSelf, Option.bind_eq_bind, Option.bind_eq_some_iff] at h ⊢
  obtain ⟨l1, h1, h2⟩ := h
  refine ⟨l1.map (cs α b), setAt_map (x := .val v) h1, ?_⟩
  rw [con_cat]
  split at h2
  · rename_i q
    rw [if_pos q]
    obtain ⟨x, h3, h4⟩ := Option.bind_eq_some_iff.mp h2
    refine Option.bind_eq_some_iff.mpr ⟨cs α b x, by simp [h3], ?_⟩
    cases x with
    | unset => exact setAt_map (x := .second) h4
    | second => exact setAt_map (x := .second) h4
    | val old =>
      simp only [cs, con_cat] at h4 ⊢
      split at h4
      · rename_i q2
        rw [if_pos q2]
        obtain ⟨y, h5, h6⟩ := Option.bind_eq_some_iff.mp h4
        exact Option.bind_eq_some_iff.mpr ⟨_, setAt_map (x := .unset) h5, setAt_map (x := .second) h6⟩
      · rename_i q2
        rw [if_neg q2]
        exact setAt_map (x := .second) h4
  · rename_i q
    rw [if_neg q]
    cases h2; rfl
theorem store_map {α b : Nat} {l l' : Array Slot} {i : Nat} {v : Value} (h : storeLocals l i v = some l') : storeLocals (l.map (cs α b)) i (con α b v) = some (l'.map (cs α b)) := by
  simp only [storeLocals, Option.bind_eq_bind, Option.bind_eq_some_iff] at h ⊢
  obtain ⟨x, h1, h2⟩ := h
  refine ⟨cs α b x, by simp [h1], ?_⟩
  cases x with
  | unset => exact storeSelf_map h2
  | second =>
    obtain ⟨y, h3, h4⟩ := Option.bind_eq_some_iff.mp h2
    exact Option.bind_eq_some_iff.mpr ⟨_, setAt_map (x := .unset) h3, storeSelf_map h4⟩
  | val old =>
    simp only [cs, con_cat] at h2 ⊢
    split at h2
    · rename_i q
      rw [if_pos q]
      obtain ⟨y, h3, h4⟩ := Option.bind_eq_some_iff.mp h2
      exact Option.bind_eq_some_iff.mpr ⟨_, setAt_map (x := .unset) h3, storeSelf_map h4⟩
    · rename_i q
      rw [if_neg q]
      exact storeSelf_map h2
theorem storeC {α b : Nat} {L L' : List Slot} {i : Nat} {v : Value} (h : storeLocals L.toArray i v = some L'.toArray) : storeLocals (cL α b L) i (con α b v) = some (cL α b L') := by
  have := store_map (α := α) (b := b) h
  simpa [cL] using this
theorem setAt_size {l l' : Array Slot} {i : Nat} {x : Slot} (h : setAt l i x = some l') : l'.size = l.size := by
  unfold setAt at h; split at h <;> cases h; simp
theorem storeSelf_size {l l' : Array Slot} {i : Nat} {v : Value} (h : storeSelf l i v = some l') : l'.size = l.size := by
  simp only [storeSelf, Option.bind_eq_bind, Option.bind_eq_some_iff] at h
  obtain ⟨l1, h1, h2⟩ := h
  have e1 := setAt_size h1
  split at h2
  · obtain ⟨x, h3, h4⟩ := Option.bind_eq_some_iff.mp h2
    cases x with
    | unset => exact (setAt_size h4).trans e1
    | second => exact (setAt_size h4).trans e1
    | val old =>
      dsimp only at h4
      split at h4
      · obtain ⟨y, h5, h6⟩ := Option.bind_eq_some_iff.mp h4
        exact (setAt_size h6).trans ((setAt_size h5).trans e1)
      · exact (setAt_size h4).trans e1
  · cases h2; exact e1
theorem store_size {l l' : Array Slot} {i : Nat} {v : Value} (h : storeLocals l i v = some l') : l'.size = l.size := by
  simp only [storeLocals, Option.bind_eq_bind, Option.bind_eq_some_iff] at h
  obtain ⟨x, h1, h2⟩ := h
  cases x with
  | unset => exact storeSelf_size h2
  | second =>
    obtain ⟨y, h3, h4⟩ := Option.bind_eq_some_iff.mp h2
    exact (storeSelf_size h4).trans (setAt_size h3)
  | val old =>
    dsimp only at h2
    split at h2
    · obtain ⟨y, h3, h4⟩ := Option.bind_eq_some_iff.mp h2
      exact (storeSelf_size h4).trans (setAt_size h3)
    · exact storeSelf_size h2
/-- a variable that may be written over by a value of one word -/
def k1 (o : Slot) : Prop := o = .unset ∨ ∃ w, o = .val w ∧ w.category = 1
def k2 (o o2 : Slot) : Prop := (o = .unset ∧ o2 = .unset) ∨ ∃ u, o = .val (.long u) ∧ o2 = .second
theorem setAt_l {L : List Slot} {k : Nat} {x : Slot} (h : k < L.length) : setAt L.toArray k x = some (L.set k x).toArray := by simp [setAt, h]
theorem get_l {L : List Slot} {k : Nat} {o : Slot} (h : L[k]? = some o) : L.toArray[k]? = some o := by rw [List.getElem?_toArray]; exact h
theorem store_u {L : List Slot} {k : Nat} {v : Value} (h : L[k]? = some .unset) : storeLocals L.toArray k v = storeSelf L.toArray k v := by
  simp only [storeLocals, Option.bind_eq_bind, get_l h, Option.bind_some]
theorem store_1 {L : List Slot} {k : Nat} {v w : Value} (h : L[k]? = some (.val w)) (hw : w.category = 1) : storeLocals L.toArray k v = storeSelf L.toArray k v := by
  simp only [storeLocals, Option.bind_eq_bind, get_l h, Option.bind_some]
  rw [if_neg (by rw [hw]; decide)]
theorem store_k {L : List Slot} {k : Nat} {v : Value} {o : Slot} (h : L[k]? = some o) (ho : k1 o) : storeLocals L.toArray k v = storeSelf L.toArray k v := by
  rcases ho with rfl | ⟨w, rfl, hw⟩
  · exact store_u h
  · exact store_1 h hw
theorem store_2 {L : List Slot} {k : Nat} {v w : Value} (h : L[k]? = some (.val w)) (hw : w.category = 2) (l2 : k + 1 < L.length) : storeLocals L.toArray k v = storeSelf (L.set (k + 1) .unset).toArray k v := by
  simp only [storeLocals, Option.bind_eq_bind, get_l h, Option.bind_some]
  rw [if_pos hw, setAt_l l2, Option.bind_some]
theorem self_1 {L : List Slot} {k : Nat} {v : Value} (hv : v.category = 1) (l : k < L.length) : storeSelf L.toArray k v = some (L.set k (.val v)).toArray := by
  simp only [storeSelf, Option.bind_eq_bind, setAt_l l, Option.bind_some]
  rw [if_neg (by rw [hv]; decide)]
theorem self_2 {L : List Slot} {k : Nat} {v : Value} {o : Slot} (hv : v.category = 2) (h : L[k + 1]? = some o) (ho : k1 o ∨ o = .second) (l : k < L.length) : storeSelf L.toArray k v = some ((L.set k (.val v)).set (k + 1) .second).toArray := by
  have l2 := (List.getElem?_eq_some_iff.mp h).1
  have e2 : (L.set k (.val v))[k + 1]? = some o := by rw [List.getElem?_set_ne (by omega)]; exact h
  simp only [storeSelf, Option.bind_eq_bind, setAt_l l, Option.bind_some]
  rw [if_pos hv, get_l e2, Option.bind_some]
  rcases ho with (rfl | ⟨w, rfl, hw⟩) | rfl
  · exact setAt_l (by rw [List.length_set]; exact l2)
  · dsimp only
    rw [if_neg (by rw [hw]; decide)]
    exact setAt_l (by rw [List.length_set]; exact l2)
  · exact setAt_l (by rw [List.length_set]; exact l2)
theorem self_3 {L : List Slot} {k : Nat} {v w : Value} (hv : v.category = 2) (h : L[k + 1]? = some (.val w)) (hw : w.category = 2) (l3 : k + 2 < L.length) (l : k < L.length) : storeSelf L.toArray k v = some (((L.set k (.val v)).set (k + 2) .unset).set (k + 1) .second).toArray := by
  have l2 := (List.getElem?_eq_some_iff.mp h).1
  have e2 : (L.set k (.val v))[k + 1]? = some (.val w) := by rw [List.getElem?_set_ne (by omega)]; exact h
  simp only [storeSelf, Option.bind_eq_bind, setAt_l l, Option.bind_some]
  rw [if_pos hv, get_l e2, Option.bind_some]
  dsimp only
  rw [if_pos hw, setAt_l (by rw [List.length_set]; exact l3), Option.bind_some, setAt_l (by rw [List.length_set, List.length_set]; exact l2)]
theorem stx {L : List Slot} {k : Nat} {o : Slot} {v : Value} (h : L[k]? = some o) (ho : k1 o) (hv : v.category = 1) : storeLocals L.toArray k v = some (L.set k (.val v)).toArray := by
  rw [store_k h ho, self_1 hv (List.getElem?_eq_some_iff.mp h).1]
theorem stx3 {L : List Slot} {k : Nat} {o o2 : Slot} {u : Int64} (h : L[k]? = some o) (h2 : L[k + 1]? = some o2) (ho : k1 o) (ho2 : k1 o2) : storeLocals L.toArray k (.long u) = some ((L.set k (.val (.long u))).set (k + 1) .second).toArray := by
  rw [store_k h ho, self_2 rfl h2 (Or.inl ho2) (List.getElem?_eq_some_iff.mp h).1]
theorem stx2 {L : List Slot} {k : Nat} {o o2 : Slot} {u : Int64} (h : L[k]? = some o) (h2 : L[k + 1]? = some o2) (ho : k2 o o2) : storeLocals L.toArray k (.long u) = some ((L.set k (.val (.long u))).set (k + 1) .second).toArray := by
  have l1 := (List.getElem?_eq_some_iff.mp h).1
  have l2 := (List.getElem?_eq_some_iff.mp h2).1
  rcases ho with ⟨rfl, rfl⟩ | ⟨u', rfl, rfl⟩
  · exact stx3 h h2 (Or.inl rfl) (Or.inl rfl)
  · rw [store_2 h rfl l2, self_2 (o := .unset) rfl (by rw [List.getElem?_set_self l2]) (Or.inl (Or.inl rfl)) (by rw [List.length_set]; exact l1)]
    rw [List.set_comm _ _ (show k + 1 ≠ k by omega), List.set_set]
theorem stx4 {L : List Slot} {k : Nat} {o2 : Slot} {w : Int64} {v : Value} (h : L[k]? = some (.val (.long w))) (h2 : L[k + 1]? = some o2) (hv : v.category = 1) : storeLocals L.toArray k v = some ((L.set (k + 1) .unset).set k (.val v)).toArray := by
  rw [store_2 h rfl (List.getElem?_eq_some_iff.mp h2).1, self_1 hv (by rw [List.length_set]; exact (List.getElem?_eq_some_iff.mp h).1)]
theorem stx5 {L : List Slot} {k : Nat} {o o3 : Slot} {w u : Int64} (h : L[k]? = some o) (ho : k1 o) (h2 : L[k + 1]? = some (.val (.long w))) (h3 : L[k + 2]? = some o3) : storeLocals L.toArray k (.long u) = some (((L.set k (.val (.long u))).set (k + 2) .unset).set (k + 1) .second).toArray := by
  rw [store_k h ho, self_3 rfl h2 rfl (List.getElem?_eq_some_iff.mp h3).1 (List.getElem?_eq_some_iff.mp h).1]
/-- a tail of dead variables -/
def wtf : Slot ⊕ Int64 → List Slot
  | .inl x => [x]
  | .inr u => [.val (.long u), .second]
def WT (D : List Slot) : Prop := ∃ l : List (Slot ⊕ Int64), D = l.flatMap wtf ∧ ∀ x, Sum.inl x ∈ l → k1 x
theorem wt0 : WT [] := ⟨[], rfl, fun _ h => nomatch h⟩
theorem wt1 {x : Slot} {D : List Slot} (h : k1 x) (W : WT D) : WT (x :: D) := by
  obtain ⟨l, rfl, g⟩ := W
  refine ⟨.inl x :: l, by simp [wtf], fun y hy => ?_⟩
  rcases List.mem_cons.mp hy with e | e
  · cases e; exact h
  · exact g y e
theorem wt2 {u : Int64} {D : List Slot} (W : WT D) : WT (.val (.long u) :: .second :: D) := by
  obtain ⟨l, rfl, g⟩ := W
  refine ⟨.inr u :: l, by simp [wtf], fun y hy => ?_⟩
  rcases List.mem_cons.mp hy with e | e
  · cases e
  · exact g y e
theorem wt12 {x y : Slot} {D : List Slot} (h : k2 x y) (W : WT D) : WT (x :: y :: D) := by
  rcases h with ⟨rfl, rfl⟩ | ⟨u, rfl, rfl⟩
  · exact wt1 (Or.inl rfl) (wt1 (Or.inl rfl) W)
  · exact wt2 W
theorem wt_cases {D : List Slot} (W : WT D) : D = [] ∨ (∃ x E, D = x :: E ∧ k1 x ∧ WT E) ∨ ∃ u E, D = .val (.long u) :: .second :: E ∧ WT E := by
  obtain ⟨l, rfl, g⟩ := W
  match l, g with
  | [], _ => exact Or.inl rfl
  | .inl x :: r, g => exact Or.inr (Or.inl ⟨x, r.flatMap wtf, by simp [wtf], g x (List.mem_cons_self ..), r, rfl, fun y hy => g y (List.mem_cons_of_mem _ hy)⟩)
  | .inr u :: r, g => exact Or.inr (Or.inr ⟨u, r.flatMap wtf, by simp [wtf], r, rfl, fun y hy => g y (List.mem_cons_of_mem _ hy)⟩)
theorem stT {L0 D : List Slot} {v : Value} {n : Nat} (W : WT D) (hl : D.length = n + 1) (hv : v.category = 1) : ∃ D', WT D' ∧ D'.length = n ∧ storeLocals (L0 ++ D).toArray L0.length v = some (L0 ++ ([.val v] : List Slot) ++ D').toArray := by
  rcases wt_cases W with rfl | ⟨x, E, rfl, hx, WE⟩ | ⟨u, E, rfl, WE⟩
  · simp at hl
  · refine ⟨E, WE, by simpa using hl, ?_⟩
    rw [stx (o := x) (by simp) hx hv]; simp
  · refine ⟨.unset :: E, wt1 (Or.inl rfl) WE, by simpa using hl, ?_⟩
    rw [stx4 (w := u) (o2 := .second) (by simp) (by rw [List.getElem?_append_right (by omega)]; simp) hv]
    simp [List.set_append]
theorem stT2 {L0 D : List Slot} {u : Int64} {n : Nat} (W : WT D) (hl : D.length = n + 2) : ∃ D', WT D' ∧ D'.length = n ∧ storeLocals (L0 ++ D).toArray L0.length (.long u) = some (L0 ++ ([.val (.long u), .second] : List Slot) ++ D').toArray := by
  rcases wt_cases W with rfl | ⟨x, E, rfl, hx, WE⟩ | ⟨w, E, rfl, WE⟩
  · simp at hl
  · rcases wt_cases WE with rfl | ⟨y, F, rfl, hy, WF⟩ | ⟨w, F, rfl, WF⟩
    · simp at hl
    · refine ⟨F, WF, by simpa using hl, ?_⟩
      rw [stx3 (o := x) (o2 := y) (by simp) (by rw [List.getElem?_append_right (by omega)]; simp) hx hy]
      simp [List.set_append]
    · refine ⟨.unset :: F, wt1 (Or.inl rfl) WF, by simpa using hl, ?_⟩
      rw [stx5 (o := x) (w := w) (o3 := .second) (by simp) hx (by rw [List.getElem?_append_right (by omega)]; simp) (by rw [List.getElem?_append_right (by omega)]; simp)]
      simp [List.set_append]
  · refine ⟨E, WE, by simpa using hl, ?_⟩
    rw [stx2 (o := .val (.long w)) (o2 := .second) (by simp) (by rw [List.getElem?_append_right (by omega)]; simp) (Or.inr ⟨w, rfl, rfl⟩)]
    simp [List.set_append]
/-- the variables at a method's entry -/
def argL : List Value → List Slot
  | [] => []
  | v :: r => if v.category = 2 then .val v :: .second :: argL r else .val v :: argL r
def entryL (as : List Value) (n : Nat) : List Slot := argL as ++ List.replicate (n - (argL as).length) .unset
theorem argL_fold : ∀ (as : List Value) (acc : List Slot), as.foldl (fun acc v => if v.category = 2 then (acc.push (.val v)).push .second else acc.push (.val v)) acc.toArray = (acc ++ argL as).toArray
  | [], acc => by simp [argL]
  | v :: r, acc => by
    simp only [List.foldl_cons, argL]
    split
    · rename_i q
      rw [show ((acc.toArray.push (Slot.val v)).push Slot.second) = (acc ++ [Slot.val v, Slot.second]).toArray by simp, argL_fold r]
      simp
    · rename_i q
      rw [show (acc.toArray.push (Slot.val v)) = (acc ++ [Slot.val v]).toArray by simp, argL_fold r]
      simp
theorem argL_map (α b : Nat) : ∀ as : List Value, argL (cV α b as) = (argL as).map (cs α b)
  | [] => rfl
  | v :: r => by
    have ih := argL_map α b r
    simp only [cV, List.map_cons, argL, con_cat] at ih ⊢
    split <;> simp [ih, cs]
theorem entry_locals (α b : Nat) (as : List Value) (n : Nat) : argsToLocals (cV α b as).toArray n = cL α b (entryL as n) := by
  have h := argL_fold (cV α b as) []
  simp only [List.nil_append] at h
  have h' : (cV α b as).toArray.foldl (fun acc v => if v.category = 2 then (acc.push (Slot.val v)).push Slot.second else acc.push (Slot.val v)) #[] = (argL (cV α b as)).toArray := by
    rw [← h]; simp
  simp only [argsToLocals]
  rw [h', argL_map]
  simp [cL, entryL, List.map_append, cs]
/-! ## 3. What the heap shows -/
def scV (ty : FieldType) (s : S) (f : Nat) : Value := match ty with
  | .long => .long (gL s f)
  | _ => .int (gI s f)
def arV (ty : FieldType) (s : S) (q : Nat) : List Value := match ty with
  | .long => (gB s q).map .long
  | _ => (gA s q).map .int
def Ar (Z : State) (h : Heap) (a : Nat) (ty : FieldType) (vs : List Value) : Prop := ∃ c : Cell, Arr Z h a c ty ∧ c.slots = vs.toArray
def Rep1 (Z : State) (ci : CI) (h : Heap) (b : Nat) (o : Nat × S) : Prop :=
  Exa Z h b (cN ci) ∧ (∀ f x, (cS ci)[f]? = some x → Fld Z h b (cN ci) x.1 x.2.1 (scV x.2.2 o.2 f)) ∧
  (∀ q x, (cA ci)[q]? = some x → Fld Z h b (cN ci) x.1 x.2.1 (if q < o.1 then .ref (b + 1 + q) else .null)) ∧
  (∀ q x, (cA ci)[q]? = some x → q < o.1 → Ar Z h (b + 1 + q) x.2.2.1 (arV x.2.2.1 o.2 q))
def RepW (Z : State) (ci : CI) (α b : Nat) (w : W) (h : Heap) : Prop :=
  (∀ l, w.1 = some l → Ar Z h α .int (l.map .int) ∧ α < b) ∧ ∀ i o, w.2[i]? = some o → Rep1 Z ci h (b + (cK ci + 1) * i) o
def Frm (lo hi : Nat) (h0 h : Heap) : Prop := ∀ (x : Nat) (c : Cell), h0[x]? = some c → (x < lo ∨ hi ≤ x) → h[x]? = some c
def usedC (w : W) : Nat := (w.2.map fun o => 1 + o.1).sum
def usedS (ci : CI) (w : W) : Nat := (w.2.map fun o => cF ci + (((cA ci).take o.1).map fun x => x.2.2.2).sum).sum
/-- what the sheet says of the class -/
def Facts (Z : State) (a0 : Array Value) (ci : CI) : Prop :=
  (Jvm.Cond.instantiable (cN ci) (cF ci)).before a0 Z = true ∧ (Jvm.Cond.initialized (cN ci)).before a0 Z = true ∧
  (∀ (f : Nat) (x : String × String × FieldType), (cS ci)[f]? = some x → Laid Z a0 (cN ci) (cN ci) x.1 x.2.1 ∧ parseFieldDescriptor x.2.1 = some x.2.2) ∧
  (∀ (q : Nat) (x : String × String × FieldType × Nat), (cA ci)[q]? = some x → Laid Z a0 (cN ci) (cN ci) x.1 x.2.1 ∧ parseFieldDescriptor x.2.1 = some (.array x.2.2.1)) ∧
  ((cS ci).map (fun x => x.1) ++ (cA ci).map (fun x => x.1)).Nodup ∧ (∀ f x, (cS ci)[f]? = some x → defaultValue x.2.2 = scV x.2.2 s0 f) ∧ (cN ci ≠ "java/lang/invoke/MethodHandle" ∧ cN ci ≠ "java/lang/invoke/VarHandle")
theorem nq {a b : Nat} (h : a ≠ b) : @Ne Addr a b := h
theorem Ar.frm {Z : State} {h h' : Heap} {a : Nat} {ty : FieldType} {vs : List Value} (A : Ar Z h a ty vs) (k : ∀ c, h[a]? = some c → h'[a]? = some c) : Ar Z h' a ty vs := by
  obtain ⟨c, ⟨q1, q2⟩, q3⟩ := A; exact ⟨c, ⟨k c q1, q2⟩, q3⟩
theorem fld_frm {Z : State} {h h' : Heap} {a : Nat} {C n d : String} {v : Value} (F : Fld Z h a C n d v) (k : ∀ c, h[a]? = some c → h'[a]? = some c) : Fld Z h' a C n d v := by
  obtain ⟨cell, cf, kc, i, f, h1, r⟩ := F; exact ⟨cell, cf, kc, i, f, k _ h1, r⟩
theorem exa_frm {Z : State} {h h' : Heap} {a : Nat} {C : String} (F : Exa Z h a C) (k : ∀ c, h[a]? = some c → h'[a]? = some c) : Exa Z h' a C := by
  obtain ⟨cell, kc, h1, r⟩ := F; exact ⟨cell, kc, k _ h1, r⟩
theorem get_lt {A : Type} {l : List A} {i : Nat} {x : A} (h : l[i]? = some x) : i < l.length := (List.getElem?_eq_some_iff.mp h).1
theorem Rep1.frm {Z : State} {ci : CI} {h h' : Heap} {b : Nat} {o : Nat × S} (F : Rep1 Z ci h b o) (k : ∀ x c, b ≤ x → x < b + (cK ci + 1) → h[x]? = some c → h'[x]? = some c) : Rep1 Z ci h' b o := by
  obtain ⟨f1, f2, f3, f4⟩ := F
  refine ⟨exa_frm f1 fun c => k b c (Nat.le_refl _) (by omega), fun f x hx => fld_frm (f2 f x hx) fun c => k b c (Nat.le_refl _) (by omega), fun q x hx => fld_frm (f3 q x hx) fun c => k b c (Nat.le_refl _) (by omega), fun q x hx hq => (f4 q x hx hq).frm fun c => k _ c (by omega) ?_⟩
  have := get_lt hx
  simp only [cK]; omega
theorem RepW.ext {Z : State} {ci : CI} {α b : Nat} {w : W} {h h' : Heap} (F : RepW Z ci α b w h) (E : Ext h h') : RepW Z ci α b w h' :=
  ⟨fun l hl => ⟨((F.1 l hl).1).frm fun c q => E.2 _ _ q, (F.1 l hl).2⟩, fun i o ho => (F.2 i o ho).frm fun x c _ _ q => E.2 _ _ q⟩
theorem Frm.refl (lo hi : Nat) (h : Heap) : Frm lo hi h h := fun _ _ q _ => q
theorem Frm.trans {lo hi : Nat} {h0 h1 h2 : Heap} (A : Frm lo hi h0 h1) (B : Frm lo hi h1 h2) : Frm lo hi h0 h2 := fun x c q r => B x c (A x c q r) r
theorem Frm.wide {lo hi lo' hi' : Nat} {h0 h1 : Heap} (A : Frm lo hi h0 h1) (q1 : lo' ≤ lo) (q2 : hi ≤ hi') : Frm lo' hi' h0 h1 := fun x c q r => A x c q (by omega)
theorem Frm.ext {lo hi : Nat} {h0 h1 h2 : Heap} (A : Frm lo hi h0 h1) (E : Ext h1 h2) : Frm lo hi h0 h2 := fun x c q r => E.2 _ _ (A x c q r)
theorem Frm.wr {lo hi : Nat} {h0 h1 h2 : Heap} {a : Nat} {sl : Nat} {v : Value} (A : Frm lo hi h0 h1) (Wt : Wr h1 h2 a sl v) (q1 : lo ≤ a) (q2 : a < hi) : Frm lo hi h0 h2 := fun x c q r => by
  have q3 := A x c q r
  obtain ⟨c', e1, -, -, -, e5, -⟩ := wr_at Wt q3
  have : x ≠ a := by omega
  rw [← e5 this]; exact e1
/-! ## 4. The walk -/
def Ok (P : PI) (M : Meth) (Z : State) (a0 : Array Value) (p : Program) (R : Room) (s : State) (m : MethodId) (meth : Method) (c : Code) (b n0 : Nat) (h0 : Heap) (uC uS : Nat) : Prop :=
  (∀ d ∈ P.1, d.before a0 Z = true) ∧ Facts Z a0 P.2 ∧ p.tables.exec = Jvm.exec ∧ Z.Warmed39 s.vm ∧ s.vm.findClass (mY M).cls = some m.cls ∧ c.code = mB M ∧ c.maxLocals = mL M ∧ meth.sig.returnType = mT M ∧ meth.name = (mY M).name ∧ R = mR M ∧ n0 ≤ b ∧
  (mTop M = true → h0.size = b + uC ∧ uC = mUC M ∧ uS = mUS M) ∧ s.heap.size = h0.size
def Inv (P : PI) (M : Meth) (l : Launch) (Z : State) (p : Program) (e : Env) (R : Room) (s : State) (m : MethodId) (args : Array Value) (below : List Frame) (meth : Method) (c : Code) (α b n0 : Nat) (h0 : Heap) (uC uS : Nat) (w : W) (T : State) (locs : List Loc) (cells slots : Nat) : Prop :=
  Stand p l e R s m args below meth c T locs cells slots ∧ RepW Z P.2 α b w T.heap ∧ Frm b (b + (cK P.2 + 1) * mN M) h0 T.heap ∧ Fr n0 locs ∧ T.heap.size = h0.size + cells ∧ cells + uC = usedC w ∧ slots + uS = usedS P.2 w ∧ cells ≤ R.cells ∧ slots ≤ R.slots ∧ w.2.length ≤ mN M
def Lv (e : Env) (T : State) (m : MethodId) (r : Option Value) (fs : List Frame) : Prop := ∀ (f : JFrame) (acts : List Action), f.method = m → f.locked = none → f.entered = [] → (doReturn e (T.setTop f) acts r).1 = T.setFrames fs
/-- from here the invocation comes to its end, with this value and this world -/
def Go (P : PI) (M : Meth) (pc : Nat) (L : List Slot) (st : List Value) (w : W) (out : Option Value × W) : Prop :=
  L.length = mL M → ∀ (l : Launch) (Z : State) (a0 : Array Value) (p : Program) (e : Env) (R : Room) (s : State) (m : MethodId) (args : Array Value) (below : List Frame) (meth : Method) (c : Code) (α b n0 : Nat) (h0 : Heap) (uC uS : Nat),
    Ok P M Z a0 p R s m meth c b n0 h0 uC uS → ∀ (T : State) (locs : List Loc) (cells slots : Nat), Inv P M l Z p e R s m args below meth c α b n0 h0 uC uS w T locs cells slots →
    ∃ (T' : State) (locs' : List Loc) (cells' slots' : Nat), Inv P M l Z p e R s m args below meth c α b n0 h0 uC uS out.2 T' locs' cells' slots' ∧
      ∀ fs, Lv e T' m (out.1.map (con α b)) fs → Steps p.tables e below (T.setTop (mkF m pc (cL α b L) (cV α b st))) (T'.setFrames fs)
section Rules
variable {P : PI} {M : Meth} {pc pc' : Nat} {L L' : List Slot} {st st' : List Value} {w w' : W} {out : Option Value × W} {x y z v : Int32} {u r : Int64}
theorem go_mv (hL : L.length = mL M → L'.length = mL M)
    (H : ∀ {p : Program} {e : Env} {below : List Frame} {T target : State} {m : MethodId} {c : Code}, At T m c below → p.tables.exec = Jvm.exec → c.code = mB M → ∀ α b : Nat, Steps p.tables e below (T.setTop (mkF m pc' (cL α b L') (cV α b st'))) target → Steps p.tables e below (T.setTop (mkF m pc (cL α b L) (cV α b st))) target)
    (k : Go P M pc' L' st' w out) : Go P M pc L st w out := by
  intro hl l Z a0 p e R s m args below meth c α b n0 h0 uC uS ok T locs cells slots I
  obtain ⟨T', l', c', n', I', fin⟩ := k (hL hl) l Z a0 p e R s m args below meth c α b n0 h0 uC uS ok T locs cells slots I
  exact ⟨T', l', c', n', I', fun fs hv => H I.1.here ok.2.2.1 ok.2.2.2.2.2.1 α b (fin fs hv)⟩
theorem go_ch (H : ∀ (l : Launch) (Z : State) (a0 : Array Value) (p : Program) (e : Env) (R : Room) (s : State) (m : MethodId) (args : Array Value) (below : List Frame) (meth : Method) (c : Code) (α b n0 : Nat) (h0 : Heap) (uC uS : Nat),
      Ok P M Z a0 p R s m meth c b n0 h0 uC uS → L.length = mL M → ∀ (T : State) (locs : List Loc) (cells slots : Nat), Inv P M l Z p e R s m args below meth c α b n0 h0 uC uS w T locs cells slots →
      ∃ (T' : State) (locs' : List Loc) (cells' slots' : Nat), Inv P M l Z p e R s m args below meth c α b n0 h0 uC uS w' T' locs' cells' slots' ∧
        ∀ target, Steps p.tables e below (T'.setTop (mkF m pc' (cL α b L) (cV α b st'))) target → Steps p.tables e below (T.setTop (mkF m pc (cL α b L) (cV α b st))) target)
    (k : Go P M pc' L st' w' out) : Go P M pc L st w out := by
  intro hl l Z a0 p e R s m args below meth c α b n0 h0 uC uS ok T locs cells slots I
  obtain ⟨T1, l1, c1, n1, I1, h1⟩ := H l Z a0 p e R s m args below meth c α b n0 h0 uC uS ok hl T locs cells slots I
  obtain ⟨T', l', c', n', I', fin⟩ := k hl l Z a0 p e R s m args below meth c α b n0 h0 uC uS ok T1 l1 c1 n1 I1
  exact ⟨T', l', c', n', I', fun fs hv => h1 _ (fin fs hv)⟩
/-! ### loads, stores, constants -/
theorem go_iloadN {k : Fin 4} (d : decode (mB M) pc = .ok (.iload_n k, 1)) (hl : L[k.val]? = some (.val (.int v))) (g : Go P M (pc + 1) L (.int v :: st) w out) : Go P M pc L (st) w out :=
  go_mv id (fun h hx hc α b r => XS.iloadN (g := mkF _ pc (cL α b L) (cV α b (st))) h hx rfl (hb hc d) (cL_get hl) r) g
theorem go_iload {k : Nat} (d : decode (mB M) pc = .ok (.iload k, 2)) (hl : L[k]? = some (.val (.int v))) (g : Go P M (pc + 2) L (.int v :: st) w out) : Go P M pc L (st) w out :=
  go_mv id (fun h hx hc α b r => XS.iload (g := mkF _ pc (cL α b L) (cV α b (st))) h hx rfl (hb hc d) (cL_get hl) r) g
theorem go_lloadN {k : Fin 4} (d : decode (mB M) pc = .ok (.lload_n k, 1)) (hl : L[k.val]? = some (.val (.long u))) (g : Go P M (pc + 1) L (.long u :: st) w out) : Go P M pc L (st) w out :=
  go_mv id (fun h hx hc α b r => XT.lloadN (g := mkF _ pc (cL α b L) (cV α b (st))) h hx rfl (hb hc d) (cL_get hl) r) g
theorem go_lload {k : Nat} (d : decode (mB M) pc = .ok (.lload k, 2)) (hl : L[k]? = some (.val (.long u))) (g : Go P M (pc + 2) L (.long u :: st) w out) : Go P M pc L (st) w out :=
  go_mv id (fun h hx hc α b r => XT.lload (g := mkF _ pc (cL α b L) (cV α b (st))) h hx rfl (hb hc d) (cL_get hl) r) g
theorem go_aloadN {k : Fin 4} {a : Nat} (d : decode (mB M) pc = .ok (.aload_n k, 1)) (hl : L[k.val]? = some (.val (.ref a))) (g : Go P M (pc + 1) L (.ref a :: st) w out) : Go P M pc L (st) w out :=
  go_mv id (fun h hx hc α b r => XS.aloadN (g := mkF _ pc (cL α b L) (cV α b (st))) h hx rfl (hb hc d) (cL_get hl) (con_ref α b (.ref a)) r) g
theorem go_aload {k : Nat} {a : Nat} (d : decode (mB M) pc = .ok (.aload k, 2)) (hl : L[k]? = some (.val (.ref a))) (g : Go P M (pc + 2) L (.ref a :: st) w out) : Go P M pc L (st) w out :=
  go_mv id (fun h hx hc α b r => XS.aload (g := mkF _ pc (cL α b L) (cV α b (st))) h hx rfl (hb hc d) (cL_get hl) (con_ref α b (.ref a)) r) g
theorem go_istoreN {k : Fin 4} (d : decode (mB M) pc = .ok (.istore_n k, 1)) (hl : storeLocals L.toArray k.val (.int x) = some L'.toArray) (g : Go P M (pc + 1) L' (st) w out) : Go P M pc L (.int x :: st) w out :=
  go_mv (fun q => by have := store_size hl; simp at this; omega) (fun h hx hc α b r => XS.istoreN (g := mkF _ pc (cL α b L) (cV α b (.int x :: st))) h hx rfl (hb hc d) rfl (storeC hl) r) g
theorem go_istore {k : Nat} (d : decode (mB M) pc = .ok (.istore k, 2)) (hl : storeLocals L.toArray k (.int x) = some L'.toArray) (g : Go P M (pc + 2) L' (st) w out) : Go P M pc L (.int x :: st) w out :=
  go_mv (fun q => by have := store_size hl; simp at this; omega) (fun h hx hc α b r => XS.istore (g := mkF _ pc (cL α b L) (cV α b (.int x :: st))) h hx rfl (hb hc d) rfl (storeC hl) r) g
theorem go_lstoreN {k : Fin 4} (d : decode (mB M) pc = .ok (.lstore_n k, 1)) (hl : storeLocals L.toArray k.val (.long u) = some L'.toArray) (g : Go P M (pc + 1) L' (st) w out) : Go P M pc L (.long u :: st) w out :=
  go_mv (fun q => by have := store_size hl; simp at this; omega) (fun h hx hc α b r => XT.lstoreN (g := mkF _ pc (cL α b L) (cV α b (.long u :: st))) h hx rfl (hb hc d) rfl (storeC hl) r) g
theorem go_lstore {k : Nat} (d : decode (mB M) pc = .ok (.lstore k, 2)) (hl : storeLocals L.toArray k (.long u) = some L'.toArray) (g : Go P M (pc + 2) L' (st) w out) : Go P M pc L (.long u :: st) w out :=
  go_mv (fun q => by have := store_size hl; simp at this; omega) (fun h hx hc α b r => XT.lstore (g := mkF _ pc (cL α b L) (cV α b (.long u :: st))) h hx rfl (hb hc d) rfl (storeC hl) r) g
theorem go_astoreN {k : Fin 4} {a : Nat} (d : decode (mB M) pc = .ok (.astore_n k, 1)) (hl : storeLocals L.toArray k.val (.ref a) = some L'.toArray) (g : Go P M (pc + 1) L' (st) w out) : Go P M pc L (.ref a :: st) w out :=
  go_mv (fun q => by have := store_size hl; simp at this; omega) (fun h hx hc α b r => XS.astoreN (g := mkF _ pc (cL α b L) (cV α b (.ref a :: st))) h hx rfl (hb hc d) rfl (con_ref α b (.ref a)) (storeC hl) r) g
theorem go_astore {k : Nat} {a : Nat} (d : decode (mB M) pc = .ok (.astore k, 2)) (hl : storeLocals L.toArray k (.ref a) = some L'.toArray) (g : Go P M (pc + 2) L' (st) w out) : Go P M pc L (.ref a :: st) w out :=
  go_mv (fun q => by have := store_size hl; simp at this; omega) (fun h hx hc α b r => XS.astore (g := mkF _ pc (cL α b L) (cV α b (.ref a :: st))) h hx rfl (hb hc d) rfl (con_ref α b (.ref a)) (storeC hl) r) g
theorem go_istoreNT {k : Fin 4} {L0 L1 D : List Slot} {n : Nat} (d : decode (mB M) pc = .ok (.istore_n k, 1)) (hk : k.val = L0.length) (h1 : L1 = L0 ++ [.val (.int x)]) (W : WT D) (hl : D.length = n + 1) (g : ∀ D', WT D' → D'.length = n → Go P M (pc + 1) (L1 ++ D') st w out) : Go P M pc (L0 ++ D) (.int x :: st) w out := by
  obtain ⟨D', W', l', e⟩ := stT (L0 := L0) (v := .int x) W hl rfl
  subst h1
  exact go_istoreN d (by rw [hk]; exact e) (g D' W' l')
theorem go_istoreT {k : Nat} {L0 L1 D : List Slot} {n : Nat} (d : decode (mB M) pc = .ok (.istore k, 2)) (hk : k = L0.length) (h1 : L1 = L0 ++ [.val (.int x)]) (W : WT D) (hl : D.length = n + 1) (g : ∀ D', WT D' → D'.length = n → Go P M (pc + 2) (L1 ++ D') st w out) : Go P M pc (L0 ++ D) (.int x :: st) w out := by
  obtain ⟨D', W', l', e⟩ := stT (L0 := L0) (v := .int x) W hl rfl
  subst h1
  exact go_istore d (by rw [hk]; exact e) (g D' W' l')
theorem go_astoreNT {k : Fin 4} {L0 L1 D : List Slot} {n : Nat} {a : Nat} (d : decode (mB M) pc = .ok (.astore_n k, 1)) (hk : k.val = L0.length) (h1 : L1 = L0 ++ [.val (.ref a)]) (W : WT D) (hl : D.length = n + 1) (g : ∀ D', WT D' → D'.length = n → Go P M (pc + 1) (L1 ++ D') st w out) : Go P M pc (L0 ++ D) (.ref a :: st) w out := by
  obtain ⟨D', W', l', e⟩ := stT (L0 := L0) (v := .ref a) W hl rfl
  subst h1
  exact go_astoreN d (by rw [hk]; exact e) (g D' W' l')
theorem go_astoreT {k : Nat} {L0 L1 D : List Slot} {n : Nat} {a : Nat} (d : decode (mB M) pc = .ok (.astore k, 2)) (hk : k = L0.length) (h1 : L1 = L0 ++ [.val (.ref a)]) (W : WT D) (hl : D.length = n + 1) (g : ∀ D', WT D' → D'.length = n → Go P M (pc + 2) (L1 ++ D') st w out) : Go P M pc (L0 ++ D) (.ref a :: st) w out := by
  obtain ⟨D', W', l', e⟩ := stT (L0 := L0) (v := .ref a) W hl rfl
  subst h1
  exact go_astore d (by rw [hk]; exact e) (g D' W' l')
theorem go_lstoreNT {k : Fin 4} {L0 L1 D : List Slot} {n : Nat} (d : decode (mB M) pc = .ok (.lstore_n k, 1)) (hk : k.val = L0.length) (h1 : L1 = L0 ++ [.val (.long u), .second]) (W : WT D) (hl : D.length = n + 2) (g : ∀ D', WT D' → D'.length = n → Go P M (pc + 1) (L1 ++ D') st w out) : Go P M pc (L0 ++ D) (.long u :: st) w out := by
  obtain ⟨D', W', l', e⟩ := stT2 (L0 := L0) (u := u) W hl
  subst h1
  exact go_lstoreN d (by rw [hk]; exact e) (g D' W' l')
theorem go_lstoreT {k : Nat} {L0 L1 D : List Slot} {n : Nat} (d : decode (mB M) pc = .ok (.lstore k, 2)) (hk : k = L0.length) (h1 : L1 = L0 ++ [.val (.long u), .second]) (W : WT D) (hl : D.length = n + 2) (g : ∀ D', WT D' → D'.length = n → Go P M (pc + 2) (L1 ++ D') st w out) : Go P M pc (L0 ++ D) (.long u :: st) w out := by
  obtain ⟨D', W', l', e⟩ := stT2 (L0 := L0) (u := u) W hl
  subst h1
  exact go_lstore d (by rw [hk]; exact e) (g D' W' l')
theorem go_iconst {i : Int} (d : decode (mB M) pc = .ok (.iconst i, 1)) (hv : v = Int32.ofInt i) (g : Go P M (pc + 1) L (.int v :: st) w out) : Go P M pc L (st) w out :=
  go_mv id (fun h hx hc α b r => XS.iconst (g := mkF _ pc (cL α b L) (cV α b (st))) h hx rfl (hb hc d) (hv ▸ r)) g
theorem go_bipush {i : Int} (d : decode (mB M) pc = .ok (.bipush i, 2)) (hv : v = (Int8.ofInt i).toInt32) (g : Go P M (pc + 2) L (.int v :: st) w out) : Go P M pc L (st) w out :=
  go_mv id (fun h hx hc α b r => XS.bipush (g := mkF _ pc (cL α b L) (cV α b (st))) h hx rfl (hb hc d) (hv ▸ r)) g
theorem go_sipush {i : Int} (d : decode (mB M) pc = .ok (.sipush i, 3)) (hv : v = (Int16.ofInt i).toInt32) (g : Go P M (pc + 3) L (.int v :: st) w out) : Go P M pc L (st) w out :=
  go_mv id (fun h hx hc α b r => XS.sipush (g := mkF _ pc (cL α b L) (cV α b (st))) h hx rfl (hb hc d) (hv ▸ r)) g
theorem go_lconst {i : Fin 2} (d : decode (mB M) pc = .ok (.lconst i, 1)) (hv : u = Int64.ofNat i) (g : Go P M (pc + 1) L (.long u :: st) w out) : Go P M pc L (st) w out :=
  go_mv id (fun h hx hc α b r => XT.lconst (g := mkF _ pc (cL α b L) (cV α b (st))) h hx rfl (hb hc d) (hv ▸ r)) g
theorem go_dup  (d : decode (mB M) pc = .ok (.dup, 1))  (g : Go P M (pc + 1) L (.int x :: .int x :: st) w out) : Go P M pc L (.int x :: st) w out :=
  go_mv id (fun h hx hc α b r => XS.dup (g := mkF _ pc (cL α b L) (cV α b (.int x :: st))) h hx rfl (hb hc d) rfl rfl r) g
theorem go_dupR {a : Nat} (d : decode (mB M) pc = .ok (.dup, 1))  (g : Go P M (pc + 1) L (.ref a :: .ref a :: st) w out) : Go P M pc L (.ref a :: st) w out :=
  go_mv id (fun h hx hc α b r => XS.dup (g := mkF _ pc (cL α b L) (cV α b (.ref a :: st))) h hx rfl (hb hc d) rfl (con_cat α b (.ref a)) r) g
theorem go_dup2 {a : Nat} (d : decode (mB M) pc = .ok (.dup2, 1))  (g : Go P M (pc + 1) L (.int x :: .ref a :: .int x :: .ref a :: st) w out) : Go P M pc L (.int x :: .ref a :: st) w out :=
  go_mv id (fun h hx hc α b r => XT.dup2 (g := mkF _ pc (cL α b L) (cV α b (.int x :: .ref a :: st))) h hx rfl (hb hc d) rfl rfl (con_cat α b (.ref a)) r) g
theorem go_dup2I  (d : decode (mB M) pc = .ok (.dup2, 1))  (g : Go P M (pc + 1) L (.int x :: .int y :: .int x :: .int y :: st) w out) : Go P M pc L (.int x :: .int y :: st) w out :=
  go_mv id (fun h hx hc α b r => XT.dup2 (g := mkF _ pc (cL α b L) (cV α b (.int x :: .int y :: st))) h hx rfl (hb hc d) rfl rfl rfl r) g
theorem go_dup2L  (d : decode (mB M) pc = .ok (.dup2, 1))  (g : Go P M (pc + 1) L (.long u :: .long u :: st) w out) : Go P M pc L (.long u :: st) w out :=
  go_mv id (fun h hx hc α b r => XT.dup2L (g := mkF _ pc (cL α b L) (cV α b (.long u :: st))) h hx rfl (hb hc d) rfl r) g
theorem go_pop  (d : decode (mB M) pc = .ok (.pop, 1))  (g : Go P M (pc + 1) L (st) w out) : Go P M pc L (.int x :: st) w out :=
  go_mv id (fun h hx hc α b r => XT.pop (g := mkF _ pc (cL α b L) (cV α b (.int x :: st))) h hx rfl (hb hc d) rfl rfl r) g
theorem go_iadd  (d : decode (mB M) pc = .ok (.iadd, 1))  (g : Go P M (pc + 1) L (.int (x + y) :: st) w out) : Go P M pc L (.int y :: .int x :: st) w out :=
  go_mv id (fun h hx hc α b r => XS.iadd (g := mkF _ pc (cL α b L) (cV α b (.int y :: .int x :: st))) h hx rfl (hb hc d) rfl r) g
theorem go_isub  (d : decode (mB M) pc = .ok (.isub, 1))  (g : Go P M (pc + 1) L (.int (x - y) :: st) w out) : Go P M pc L (.int y :: .int x :: st) w out :=
  go_mv id (fun h hx hc α b r => XS.isub (g := mkF _ pc (cL α b L) (cV α b (.int y :: .int x :: st))) h hx rfl (hb hc d) rfl r) g
theorem go_imul  (d : decode (mB M) pc = .ok (.imul, 1))  (g : Go P M (pc + 1) L (.int (x * y) :: st) w out) : Go P M pc L (.int y :: .int x :: st) w out :=
  go_mv id (fun h hx hc α b r => XS.imul (g := mkF _ pc (cL α b L) (cV α b (.int y :: .int x :: st))) h hx rfl (hb hc d) rfl r) g
theorem go_iand  (d : decode (mB M) pc = .ok (.iand, 1))  (g : Go P M (pc + 1) L (.int (x &&& y) :: st) w out) : Go P M pc L (.int y :: .int x :: st) w out :=
  go_mv id (fun h hx hc α b r => XS.iand (g := mkF _ pc (cL α b L) (cV α b (.int y :: .int x :: st))) h hx rfl (hb hc d) rfl r) g
theorem go_ior  (d : decode (mB M) pc = .ok (.ior, 1))  (g : Go P M (pc + 1) L (.int (x ||| y) :: st) w out) : Go P M pc L (.int y :: .int x :: st) w out :=
  go_mv id (fun h hx hc α b r => XT.ior (g := mkF _ pc (cL α b L) (cV α b (.int y :: .int x :: st))) h hx rfl (hb hc d) rfl r) g
theorem go_ixor  (d : decode (mB M) pc = .ok (.ixor, 1))  (g : Go P M (pc + 1) L (.int (x ^^^ y) :: st) w out) : Go P M pc L (.int y :: .int x :: st) w out :=
  go_mv id (fun h hx hc α b r => XT.ixor (g := mkF _ pc (cL α b L) (cV α b (.int y :: .int x :: st))) h hx rfl (hb hc d) rfl r) g
theorem go_ishl  (d : decode (mB M) pc = .ok (.ishl, 1))  (g : Go P M (pc + 1) L (.int (x <<< (y &&& 31)) :: st) w out) : Go P M pc L (.int y :: .int x :: st) w out :=
  go_mv id (fun h hx hc α b r => XT.ishl (g := mkF _ pc (cL α b L) (cV α b (.int y :: .int x :: st))) h hx rfl (hb hc d) rfl r) g
theorem go_ishr  (d : decode (mB M) pc = .ok (.ishr, 1))  (g : Go P M (pc + 1) L (.int (x >>> (y &&& 31)) :: st) w out) : Go P M pc L (.int y :: .int x :: st) w out :=
  go_mv id (fun h hx hc α b r => XT.ishr (g := mkF _ pc (cL α b L) (cV α b (.int y :: .int x :: st))) h hx rfl (hb hc d) rfl r) g
theorem go_iushr  (d : decode (mB M) pc = .ok (.iushr, 1))  (g : Go P M (pc + 1) L (.int (XT.ushr x y) :: st) w out) : Go P M pc L (.int y :: .int x :: st) w out :=
  go_mv id (fun h hx hc α b r => XT.iushr (g := mkF _ pc (cL α b L) (cV α b (.int y :: .int x :: st))) h hx rfl (hb hc d) rfl r) g
theorem go_idiv  (d : decode (mB M) pc = .ok (.idiv, 1)) (hy : y ≠ 0) (g : Go P M (pc + 1) L (.int (x / y) :: st) w out) : Go P M pc L (.int y :: .int x :: st) w out :=
  go_mv id (fun h hx hc α b r => XS.idiv (g := mkF _ pc (cL α b L) (cV α b (.int y :: .int x :: st))) h hx rfl (hb hc d) rfl hy r) g
theorem go_irem  (d : decode (mB M) pc = .ok (.irem, 1)) (hy : y ≠ 0) (g : Go P M (pc + 1) L (.int (x % y) :: st) w out) : Go P M pc L (.int y :: .int x :: st) w out :=
  go_mv id (fun h hx hc α b r => XS.irem (g := mkF _ pc (cL α b L) (cV α b (.int y :: .int x :: st))) h hx rfl (hb hc d) rfl hy (by rw [irem_eq_mod x y]; exact r)) g
theorem go_ineg  (d : decode (mB M) pc = .ok (.ineg, 1))  (g : Go P M (pc + 1) L (.int (-x) :: st) w out) : Go P M pc L (.int x :: st) w out :=
  go_mv id (fun h hx hc α b r => XS.ineg (g := mkF _ pc (cL α b L) (cV α b (.int x :: st))) h hx rfl (hb hc d) rfl r) g
theorem go_ladd  (d : decode (mB M) pc = .ok (.ladd, 1))  (g : Go P M (pc + 1) L (.long (u + r) :: st) w out) : Go P M pc L (.long r :: .long u :: st) w out :=
  go_mv id (fun h hx hc α b k => XT.ladd (g := mkF _ pc (cL α b L) (cV α b (.long r :: .long u :: st))) h hx rfl (hb hc d) rfl k) g
theorem go_lsub  (d : decode (mB M) pc = .ok (.lsub, 1))  (g : Go P M (pc + 1) L (.long (u - r) :: st) w out) : Go P M pc L (.long r :: .long u :: st) w out :=
  go_mv id (fun h hx hc α b k => XT.lsub (g := mkF _ pc (cL α b L) (cV α b (.long r :: .long u :: st))) h hx rfl (hb hc d) rfl k) g
theorem go_lmul  (d : decode (mB M) pc = .ok (.lmul, 1))  (g : Go P M (pc + 1) L (.long (u * r) :: st) w out) : Go P M pc L (.long r :: .long u :: st) w out :=
  go_mv id (fun h hx hc α b k => XT.lmul (g := mkF _ pc (cL α b L) (cV α b (.long r :: .long u :: st))) h hx rfl (hb hc d) rfl k) g
theorem go_land  (d : decode (mB M) pc = .ok (.land, 1))  (g : Go P M (pc + 1) L (.long (u &&& r) :: st) w out) : Go P M pc L (.long r :: .long u :: st) w out :=
  go_mv id (fun h hx hc α b k => XT.land (g := mkF _ pc (cL α b L) (cV α b (.long r :: .long u :: st))) h hx rfl (hb hc d) rfl k) g
theorem go_lor  (d : decode (mB M) pc = .ok (.lor, 1))  (g : Go P M (pc + 1) L (.long (u ||| r) :: st) w out) : Go P M pc L (.long r :: .long u :: st) w out :=
  go_mv id (fun h hx hc α b k => XT.lor (g := mkF _ pc (cL α b L) (cV α b (.long r :: .long u :: st))) h hx rfl (hb hc d) rfl k) g
theorem go_lxor  (d : decode (mB M) pc = .ok (.lxor, 1))  (g : Go P M (pc + 1) L (.long (u ^^^ r) :: st) w out) : Go P M pc L (.long r :: .long u :: st) w out :=
  go_mv id (fun h hx hc α b k => XT.lxor (g := mkF _ pc (cL α b L) (cV α b (.long r :: .long u :: st))) h hx rfl (hb hc d) rfl k) g
theorem go_lshl  (d : decode (mB M) pc = .ok (.lshl, 1))  (g : Go P M (pc + 1) L (.long (u <<< (y.toInt64 &&& 63)) :: st) w out) : Go P M pc L (.int y :: .long u :: st) w out :=
  go_mv id (fun h hx hc α b r => XT.lshl (g := mkF _ pc (cL α b L) (cV α b (.int y :: .long u :: st))) h hx rfl (hb hc d) rfl r) g
theorem go_lshr  (d : decode (mB M) pc = .ok (.lshr, 1))  (g : Go P M (pc + 1) L (.long (u >>> (y.toInt64 &&& 63)) :: st) w out) : Go P M pc L (.int y :: .long u :: st) w out :=
  go_mv id (fun h hx hc α b r => XT.lshr (g := mkF _ pc (cL α b L) (cV α b (.int y :: .long u :: st))) h hx rfl (hb hc d) rfl r) g
theorem go_lushr  (d : decode (mB M) pc = .ok (.lushr, 1))  (g : Go P M (pc + 1) L (.long (XT.ushrL u y) :: st) w out) : Go P M pc L (.int y :: .long u :: st) w out :=
  go_mv id (fun h hx hc α b r => XT.lushr (g := mkF _ pc (cL α b L) (cV α b (.int y :: .long u :: st))) h hx rfl (hb hc d) rfl r) g
theorem go_lcmp  (d : decode (mB M) pc = .ok (.lcmp, 1))  (g : Go P M (pc + 1) L (.int (XT.cmpL u r) :: st) w out) : Go P M pc L (.long r :: .long u :: st) w out :=
  go_mv id (fun h hx hc α b k => XT.lcmp (g := mkF _ pc (cL α b L) (cV α b (.long r :: .long u :: st))) h hx rfl (hb hc d) rfl k) g
theorem go_i2l  (d : decode (mB M) pc = .ok (.i2l, 1))  (g : Go P M (pc + 1) L (.long x.toInt64 :: st) w out) : Go P M pc L (.int x :: st) w out :=
  go_mv id (fun h hx hc α b r => XT.i2l (g := mkF _ pc (cL α b L) (cV α b (.int x :: st))) h hx rfl (hb hc d) rfl r) g
theorem go_l2i  (d : decode (mB M) pc = .ok (.l2i, 1))  (g : Go P M (pc + 1) L (.int u.toInt32 :: st) w out) : Go P M pc L (.long u :: st) w out :=
  go_mv id (fun h hx hc α b r => XT.l2i (g := mkF _ pc (cL α b L) (cV α b (.long u :: st))) h hx rfl (hb hc d) rfl r) g
theorem go_i2b  (d : decode (mB M) pc = .ok (.i2b, 1))  (g : Go P M (pc + 1) L (.int x.toInt8.toInt32 :: st) w out) : Go P M pc L (.int x :: st) w out :=
  go_mv id (fun h hx hc α b r => XT.i2b (g := mkF _ pc (cL α b L) (cV α b (.int x :: st))) h hx rfl (hb hc d) rfl r) g
theorem go_iinc {k : Nat} {i : Int} (d : decode (mB M) pc = .ok (.iinc k i, 3)) (h1 : L[k]? = some (.val (.int x))) (hv : v = Int32.ofInt i) (hl : storeLocals L.toArray k (.int (x + v)) = some L'.toArray) (g : Go P M (pc + 3) L' (st) w out) : Go P M pc L (st) w out :=
  by subst hv; exact go_mv (fun q => by have := store_size hl; simp at this; omega) (fun h hx hc α b r => XS.iinc (g := mkF _ pc (cL α b L) (cV α b (st))) h hx rfl (hb hc d) (cL_get h1) (storeC hl) r) g
theorem go_goto {o : Int} (d : decode (mB M) pc = .ok (.goto o, 3)) (hp : 0 ≤ (pc : Int) + o ∧ ((pc : Int) + o).toNat = pc') (g : Go P M pc' L (st) w out) : Go P M pc L (st) w out :=
  go_mv id (fun h hx hc α b r => XS.goto (g := mkF _ pc (cL α b L) (cV α b (st))) h hx rfl rfl (hb hc d) hp.1 hp.2 r) g
theorem go_ifY {cd : ClassFile.Cond} {o : Int} (d : decode (mB M) pc = .ok (.ifCond cd o, 3)) (hq : ifCond.holds cd x = true) (hp : 0 ≤ (pc : Int) + o ∧ ((pc : Int) + o).toNat = pc') (g : Go P M pc' L (st) w out) : Go P M pc L (.int x :: st) w out :=
  go_mv id (fun h hx hc α b r => XS.ifYes (g := mkF _ pc (cL α b L) (cV α b (.int x :: st))) h hx rfl rfl (hb hc d) rfl hq hp.1 hp.2 r) g
theorem go_ifN {cd : ClassFile.Cond} {o : Int} (d : decode (mB M) pc = .ok (.ifCond cd o, 3)) (hq : ifCond.holds cd x = false) (g : Go P M (pc + 3) L (st) w out) : Go P M pc L (.int x :: st) w out :=
  go_mv id (fun h hx hc α b r => XS.ifNo (g := mkF _ pc (cL α b L) (cV α b (.int x :: st))) h hx rfl (hb hc d) rfl hq r) g
theorem go_icY {cd : ClassFile.Cond} {o : Int} (d : decode (mB M) pc = .ok (.if_icmp cd o, 3)) (hq : if_icmp.holds cd x y = true) (hp : 0 ≤ (pc : Int) + o ∧ ((pc : Int) + o).toNat = pc') (g : Go P M pc' L (st) w out) : Go P M pc L (.int y :: .int x :: st) w out :=
  go_mv id (fun h hx hc α b r => XS.icmpYes (g := mkF _ pc (cL α b L) (cV α b (.int y :: .int x :: st))) h hx rfl rfl (hb hc d) rfl hq hp.1 hp.2 r) g
theorem go_icN {cd : ClassFile.Cond} {o : Int} (d : decode (mB M) pc = .ok (.if_icmp cd o, 3)) (hq : if_icmp.holds cd x y = false) (g : Go P M (pc + 3) L (st) w out) : Go P M pc L (.int y :: .int x :: st) w out :=
  go_mv id (fun h hx hc α b r => XS.icmpNo (g := mkF _ pc (cL α b L) (cV α b (.int y :: .int x :: st))) h hx rfl (hb hc d) rfl hq r) g
theorem go_nonnull {o : Int} (d : decode (mB M) pc = .ok (.ifnonnull o, 3)) (hp : 0 ≤ (pc : Int) + o ∧ ((pc : Int) + o).toNat = pc') (g : Go P M pc' L st w out) : Go P M pc L (.ref 0 :: st) w out :=
  go_mv id (fun h hx hc α b r => XT.ifnonnullYes (g := mkF _ pc (cL α b L) (cV α b (.ref 0 :: st))) (b := α) h hx rfl rfl (hb hc d) rfl hp.1 hp.2 r) g
theorem go_tswIn {dflt low high : Int} {offs : Array Int} {len : Nat} {o : Int} (d : decode (mB M) pc = .ok (.tableswitch dflt low high offs, len)) (hin : ¬ (x.toInt < low ∨ x.toInt > high)) (hoff : offs[(x.toInt - low).toNat]? = some o) (hp : 0 ≤ (pc : Int) + o ∧ ((pc : Int) + o).toNat = pc') (g : Go P M pc' L st w out) : Go P M pc L (.int x :: st) w out :=
  go_mv id (fun h hx hc α b r => XS.tswIn (g := mkF _ pc (cL α b L) (cV α b (.int x :: st))) h hx rfl rfl (hb hc d) rfl hin hoff hp.1 hp.2 r) g
theorem go_tswOut {dflt low high : Int} {offs : Array Int} {len : Nat} (d : decode (mB M) pc = .ok (.tableswitch dflt low high offs, len)) (hout : x.toInt < low ∨ x.toInt > high) (hp : 0 ≤ (pc : Int) + dflt ∧ ((pc : Int) + dflt).toNat = pc') (g : Go P M pc' L st w out) : Go P M pc L (.int x :: st) w out :=
  go_mv id (fun h hx hc α b r => XS.tswOut (g := mkF _ pc (cL α b L) (cV α b (.int x :: st))) h hx rfl rfl (hb hc d) rfl hout hp.1 hp.2 r) g
/-! ### constants of the pool -/
theorem go_ldc {k : Nat} (d : decode (mB M) pc = .ok (.ldc k, 2)) (hk : Jvm.Cond.constant (mY M).cls k v ∈ P.1) (g : Go P M (pc + 2) L (.int v :: st) w out) : Go P M pc L st w out :=
  go_ch (fun l Z a0 p e R s m args below meth c α b n0 h0 uC uS ok hl T locs cells slots I => ⟨T, locs, cells, slots, I, fun target r => Stand.ldcI (g := mkF m pc (cL α b L) (cV α b st)) I.1 ok.2.2.1 ok.2.2.2.2.1 (mvT ok.2.2.2.1 (ok.1 _ hk)) rfl (hb ok.2.2.2.2.2.1 d) r⟩) g
theorem go_ldcW {k : Nat} (d : decode (mB M) pc = .ok (.ldc_w k, 3)) (hk : Jvm.Cond.constant (mY M).cls k v ∈ P.1) (g : Go P M (pc + 3) L (.int v :: st) w out) : Go P M pc L st w out :=
  go_ch (fun l Z a0 p e R s m args below meth c α b n0 h0 uC uS ok hl T locs cells slots I => ⟨T, locs, cells, slots, I, fun target r => Stand.ldcWI (g := mkF m pc (cL α b L) (cV α b st)) I.1 ok.2.2.1 ok.2.2.2.2.1 (mvT ok.2.2.2.1 (ok.1 _ hk)) rfl (hb ok.2.2.2.2.2.1 d) r⟩) g
theorem go_ldc2 {k : Nat} (d : decode (mB M) pc = .ok (.ldc2_w k, 3)) (hk : Jvm.Cond.constantLong (mY M).cls k u ∈ P.1) (g : Go P M (pc + 3) L (.long u :: st) w out) : Go P M pc L st w out :=
  go_ch (fun l Z a0 p e R s m args below meth c α b n0 h0 uC uS ok hl T locs cells slots I => ⟨T, locs, cells, slots, I, fun target r => Stand.ldc2J (g := mkF m pc (cL α b L) (cV α b st)) I.1 ok.2.2.1 ok.2.2.2.2.1 (mvT ok.2.2.2.1 (ok.1 _ hk)) rfl (hb ok.2.2.2.2.2.1 d) r⟩) g
/-! ### returns -/
theorem go_iret (hT : mT M = some .int) (d : decode (mB M) pc = .ok (.ireturn, 1)) : Go P M pc L (.int x :: st) w (some (.int x), w) := by
  intro hl l Z a0 p e R s m args below meth c α b n0 h0 uC uS ok T locs cells slots I
  exact ⟨T, locs, cells, slots, I, fun fs hv => retOut I.1 ok.2.2.1 (t := .int) (ok.2.2.2.2.2.2.2.1.trans hT) rfl (Or.inl ⟨rfl, Or.inl rfl, x, rfl⟩) (hb ok.2.2.2.2.2.1 d) hv⟩
theorem go_zret (hT : mT M = some .boolean) (d : decode (mB M) pc = .ok (.ireturn, 1)) (hz : v = nar .boolean x) : Go P M pc L (.int x :: st) w (some (.int v), w) := by
  intro hl l Z a0 p e R s m args below meth c α b n0 h0 uC uS ok T locs cells slots I
  subst hz
  exact ⟨T, locs, cells, slots, I, fun fs hv => retN I.1 ok.2.2.1 (t := .boolean) (ok.2.2.2.2.2.2.2.1.trans hT) (Or.inl rfl) (hb ok.2.2.2.2.2.1 d) hv⟩
theorem go_lret (hT : mT M = some .long) (d : decode (mB M) pc = .ok (.lreturn, 1)) : Go P M pc L (.long u :: st) w (some (.long u), w) := by
  intro hl l Z a0 p e R s m args below meth c α b n0 h0 uC uS ok T locs cells slots I
  exact ⟨T, locs, cells, slots, I, fun fs hv => retOut I.1 ok.2.2.1 (t := .long) (ok.2.2.2.2.2.2.2.1.trans hT) rfl (Or.inr (Or.inl ⟨rfl, rfl, u, rfl⟩)) (hb ok.2.2.2.2.2.1 d) hv⟩
theorem go_ret (hT : mT M = none) (d : decode (mB M) pc = .ok (.return_, 1)) : Go P M pc L [] w (none, w) := by
  intro hl l Z a0 p e R s m args below meth c α b n0 h0 uC uS ok T locs cells slots I
  exact ⟨T, locs, cells, slots, I, fun fs hv => I.1.returnOut ok.2.2.1 (ok.2.2.2.2.2.2.2.1.trans hT) (hb ok.2.2.2.2.2.1 d) hv⟩
/-! ### fields -/
variable {o o' : Nat × S} {s : S} {k n : Nat}
theorem rep_one {Z : State} {ci : CI} {α b : Nat} {h : Heap} (F : RepW Z ci α b (none, [o]) h) : Rep1 Z ci h b o := by
  have := F.2 0 o rfl
  simpa using this
theorem rep_mk {Z : State} {ci : CI} {α b : Nat} {h : Heap} (F : Rep1 Z ci h b o) : RepW Z ci α b (none, [o]) h :=
  ⟨fun l hl => (nomatch hl), fun i o1 ho => by
    cases i with
    | zero => cases ho; simpa using F
    | succ i => simp at ho⟩
/-- the entry idx names the scalar field number f; of type ty -/
def FldS (P : PI) (idx f : Nat) (ty : FieldType) : Prop := ∃ nm ds, (cS P.2)[f]? = some (nm, ds, ty) ∧ Jvm.Cond.fieldLink (cN P.2) idx (cN P.2) nm ds ∈ P.1
def FldA (P : PI) (idx q : Nat) (ty : FieldType) : Prop := ∃ nm ds cap, (cA P.2)[q]? = some (nm, ds, ty, cap) ∧ Jvm.Cond.fieldLink (cN P.2) idx (cN P.2) nm ds ∈ P.1
theorem go_getV {idx f : Nat} {ty : FieldType} (F : FldS P idx f ty) (hM : (mY M).cls = cN P.2) (d : decode (mB M) pc = .ok (.getfield idx, 3)) {vv : Value} (hv : vv = scV ty s f) (hr : ∀ α b, con α b vv = vv) (g : Go P M (pc + 3) L (vv :: st) (none, [(k, s)]) out) : Go P M pc L (.ref 1 :: st) (none, [(k, s)]) out :=
  go_ch (fun l Z a0 p e R s1 m args below meth c α b n0 h0 uC uS ok hl T locs cells slots I => by
    obtain ⟨nm, ds, f1, f2⟩ := F
    obtain ⟨hw, fa, hx, hZ, hown, hc, hml, hret, hnm, hR, hn0, htop, hsz⟩ := ok
    obtain ⟨X, Rp, Fm, Nl, hs, u1, u2, c1, c2, hN⟩ := I
    have Fd := (rep_one Rp).2.1 f _ f1
    rw [hM] at hown
    obtain ⟨T', X', e', stp⟩ := getF X hx hZ hown (host := "") (Or.inl (hw _ f2)) Via.refl rfl Fd (g := mkF m pc (cL α b L) (cV α b (.ref 1 :: st))) rfl rfl (hb hc d)
    refine ⟨T', locs, cells, slots, ⟨X', by rw [e']; exact Rp, by rw [e']; exact Fm, Nl, by rw [e']; exact hs, u1, u2, c1, c2, hN⟩, fun target r => stp target ?_⟩
    rw [show cV α b (vv :: st) = con α b vv :: cV α b st from rfl, hr, hv] at r
    exact r) g
theorem go_getI {idx f : Nat} (F : FldS P idx f .int) (hM : (mY M).cls = cN P.2) (d : decode (mB M) pc = .ok (.getfield idx, 3)) (g : Go P M (pc + 3) L (.int (gI s f) :: st) (none, [(k, s)]) out) : Go P M pc L (.ref 1 :: st) (none, [(k, s)]) out :=
  go_getV F hM d rfl (fun _ _ => rfl) g
theorem go_getZ {idx f : Nat} (F : FldS P idx f .boolean) (hM : (mY M).cls = cN P.2) (d : decode (mB M) pc = .ok (.getfield idx, 3)) (g : Go P M (pc + 3) L (.int (gI s f) :: st) (none, [(k, s)]) out) : Go P M pc L (.ref 1 :: st) (none, [(k, s)]) out :=
  go_getV F hM d rfl (fun _ _ => rfl) g
theorem go_getJ {idx f : Nat} (F : FldS P idx f .long) (hM : (mY M).cls = cN P.2) (d : decode (mB M) pc = .ok (.getfield idx, 3)) (g : Go P M (pc + 3) L (.long (gL s f) :: st) (none, [(k, s)]) out) : Go P M pc L (.ref 1 :: st) (none, [(k, s)]) out :=
  go_getV F hM d rfl (fun _ _ => rfl) g
theorem go_getA {idx q : Nat} {ty : FieldType} (F : FldA P idx q ty) (hM : (mY M).cls = cN P.2) (d : decode (mB M) pc = .ok (.getfield idx, 3)) (hq : Nat.blt q k = true) (g : Go P M (pc + 3) L (.ref (q + 2) :: st) (none, [(k, s)]) out) : Go P M pc L (.ref 1 :: st) (none, [(k, s)]) out :=
  go_ch (fun l Z a0 p e R s1 m args below meth c α b n0 h0 uC uS ok hl T locs cells slots I => by
    obtain ⟨nm, ds, cap, f1, f2⟩ := F
    obtain ⟨hw, fa, hx, hZ, hown, hc, hml, hret, hnm, hR, hn0, htop, hsz⟩ := ok
    obtain ⟨X, Rp, Fm, Nl, hs, u1, u2, c1, c2, hN⟩ := I
    have Fd := (rep_one Rp).2.2.1 q _ f1
    rw [if_pos (show q < (k, s).1 by simpa [Nat.blt_eq] using hq)] at Fd
    rw [hM] at hown
    obtain ⟨T', X', e', stp⟩ := getF X hx hZ hown (host := "") (Or.inl (hw _ f2)) Via.refl rfl Fd (g := mkF m pc (cL α b L) (cV α b (.ref 1 :: st))) rfl rfl (hb hc d)
    refine ⟨T', locs, cells, slots, ⟨X', by rw [e']; exact Rp, by rw [e']; exact Fm, Nl, by rw [e']; exact hs, u1, u2, c1, c2, hN⟩, fun target r => stp target ?_⟩
    rw [show cV α b (.ref (q + 2) :: st) = .ref (b + (q + 1)) :: cV α b st from rfl] at r
    rw [show b + 1 + q = b + (q + 1) by omega]
    exact r) g
/-- another scalar of the object takes its value -/
theorem rep_put {Z : State} {a0 : Array Value} {ci : CI} {h h' : Heap} {b : Nat} {s s' : S} {k f : Nat} {nm ds : String} {ty : FieldType} {vv : Value} (fa : Facts Z a0 ci) (F : Rep1 Z ci h b (k, s)) (hf : (cS ci)[f]? = some (nm, ds, ty))
    (Wt : Wr h h' b (Jvm.RoadKit.slotOf Z (cN ci) nm ds) vv) (hv : vv = scV ty s' f) (ho : ∀ f' x, (cS ci)[f']? = some x → f' ≠ f → scV x.2.2 s' f' = scV x.2.2 s f') (ha : gA s' = gA s) (hbb : gB s' = gB s) : Rep1 Z ci h' b (k, s') := by
  obtain ⟨f1, f2, f3, f4⟩ := F
  obtain ⟨-, -, g1, g2, g3, -⟩ := fa
  have lt := get_lt hf
  refine ⟨f1.wr Wt, fun f' x hx => ?_, fun q x hx => ?_, fun q x hx hq => ?_⟩
  · by_cases e : f' = f
    · subst e
      cases hf.symm.trans hx
      show Fld Z h' b (cN ci) nm ds (scV ty s' f')
      rw [← hv]; exact (f2 f' _ hf).same Wt
    · have lt' := get_lt hx
      show Fld Z h' b (cN ci) x.1 x.2.1 (scV x.2.2 s' f')
      rw [ho f' x hx e]
      refine (f2 f' x hx).other Wt (Or.inr ?_)
      refine slot_ne (g1 f' x hx).1 (g1 f _ hf).1 ?_ (g1 f' x hx).2 (g1 f _ hf).2
      intro en
      have n1 : ((cS ci).map (fun x => x.1) ++ (cA ci).map (fun x => x.1))[f']? = some x.1 := by rw [List.getElem?_append_left (by simpa using lt')]; simp [hx]
      have n2 : ((cS ci).map (fun x => x.1) ++ (cA ci).map (fun x => x.1))[f]? = some nm := by rw [List.getElem?_append_left (by simpa using lt)]; simp [hf]
      rw [en] at n1
      obtain ⟨i1, j1⟩ := List.getElem?_eq_some_iff.mp n1
      obtain ⟨i2, j2⟩ := List.getElem?_eq_some_iff.mp n2
      exact e ((List.getElem_inj g3).mp (j1.trans j2.symm))
  · refine (f3 q x hx).other Wt (Or.inr ?_)
    have lt' := get_lt hx
    refine slot_ne (g2 q x hx).1 (g1 f _ hf).1 ?_ (g2 q x hx).2 (g1 f _ hf).2
    intro en
    have n1 : ((cS ci).map (fun x => x.1) ++ (cA ci).map (fun x => x.1))[(cS ci).length + q]? = some x.1 := by rw [List.getElem?_append_right (by simp)]; simp [hx]
    have n2 : ((cS ci).map (fun x => x.1) ++ (cA ci).map (fun x => x.1))[f]? = some nm := by rw [List.getElem?_append_left (by simpa using lt)]; simp [hf]
    rw [en] at n1
    obtain ⟨i1, j1⟩ := List.getElem?_eq_some_iff.mp n1
    obtain ⟨i2, j2⟩ := List.getElem?_eq_some_iff.mp n2
    have := (List.getElem_inj g3).mp (j1.trans j2.symm)
    omega
  · obtain ⟨c, A, e⟩ := f4 q x hx hq
    refine ⟨c, A.other Wt (nq (by omega)), e.trans ?_⟩
    show (arV x.2.2.1 s q).toArray = (arV x.2.2.1 s' q).toArray
    unfold arV
    split <;> simp [ha, hbb]
theorem go_putV {idx f : Nat} {ty : FieldType} {vv : Value} {s' : S} (F : FldS P idx f ty) (hM : (mY M).cls = cN P.2)
    (hlays : ∀ nm ds, (cS P.2)[f]? = some (nm, ds, ty) → Jvm.Cond.lays (cN P.2) (cN P.2) nm ds ∈ P.1 ∨ (Jvm.Cond.laysFinal (cN P.2) (cN P.2) nm ds ∈ P.1 ∧ (mY M).name = "<init>"))
    (hpos : 0 < mN M) (hr : ∀ α b, con α b vv = vv) (hn : narrow ty vv = vv) (hfi : fits ty vv = true) (hv : vv = scV ty s' f) (ho : ∀ f' x, (cS P.2)[f']? = some x → f' ≠ f → scV x.2.2 s' f' = scV x.2.2 s f') (ha : gA s' = gA s) (hbb : gB s' = gB s)
    (d : decode (mB M) pc = .ok (.putfield idx, 3)) (g : Go P M (pc + 3) L st (none, [(k, s')]) out) : Go P M pc L (vv :: .ref 1 :: st) (none, [(k, s)]) out :=
  go_ch (fun l Z a0 p e R s1 m args below meth c α b n0 h0 uC uS ok hl T locs cells slots I => by
    obtain ⟨nm, ds, f1, f2⟩ := F
    obtain ⟨hw, fa, hx, hZ, hown, hc, hml, hret, hnm, hR, hn0, htop, hsz⟩ := ok
    obtain ⟨X, Rp, Fm, Nl, hs, u1, u2, c1, c2, hN⟩ := I
    have Rp1 := rep_one Rp
    have Fd := Rp1.2.1 f _ f1
    rw [hM] at hown
    obtain ⟨T', h', X', e', Wt, stp⟩ := putF X hx hZ hown (host := "") (Or.inl (hw _ f2)) Via.refl rfl Fd Rp1.1 ((hlays nm ds f1).imp (fun q => hw _ q) (fun q => ⟨hw _ q.1, rfl, hnm.trans q.2⟩)) fa.1 (fa.2.2.1 f _ f1).2 hn hfi (g := mkF m pc (cL α b L) (vv :: .ref b :: cV α b st)) rfl rfl (hb hc d)
    refine ⟨T', _, cells, slots, ⟨X', rep_mk (by rw [e']; exact rep_put fa Rp1 f1 Wt hv ho ha hbb), by rw [e']; exact Fm.wr Wt (Nat.le_refl _) (by have := Nat.mul_le_mul_left (cK P.2 + 1) hpos; omega), Fr.snoc X' Nl hn0, by rw [e', Wt.size]; exact hs, u1, u2, c1, c2, hN⟩, fun target r => ?_⟩
    rw [show cV α b (vv :: .ref 1 :: st) = con α b vv :: .ref b :: cV α b st from rfl, hr]
    exact stp target r) g
theorem scV_sI (s : S) (f : Nat) (x : Int32) (ty : FieldType) (f' : Nat) (h : f' ≠ f) : scV ty (sI s f x) f' = scV ty s f' := by
  unfold scV; split <;> simp [gI_sI, gL_sI, h]
theorem scV_sL (s : S) (f : Nat) (x : Int64) (ty : FieldType) (f' : Nat) (h : f' ≠ f) : scV ty (sL s f x) f' = scV ty s f' := by
  unfold scV; split <;> simp [gI_sL, gL_sL, h]
/-- the word that lets the field be written -/
def Wrt (P : PI) (M : Meth) (f : Nat) : Prop := ∃ nm ds ty, (cS P.2)[f]? = some (nm, ds, ty) ∧ (Jvm.Cond.lays (cN P.2) (cN P.2) nm ds ∈ P.1 ∨ (Jvm.Cond.laysFinal (cN P.2) (cN P.2) nm ds ∈ P.1 ∧ (mY M).name = "<init>"))
theorem Wrt.use {f : Nat} {ty : FieldType} (h : Wrt P M f) : ∀ nm ds, (cS P.2)[f]? = some (nm, ds, ty) → Jvm.Cond.lays (cN P.2) (cN P.2) nm ds ∈ P.1 ∨ (Jvm.Cond.laysFinal (cN P.2) (cN P.2) nm ds ∈ P.1 ∧ (mY M).name = "<init>") := by
  obtain ⟨nm, ds, ty', h1, h2⟩ := h
  intro nm' ds' h3
  cases h1.symm.trans h3
  exact h2
theorem go_putI {idx f : Nat} (F : FldS P idx f .int) (hM : (mY M).cls = cN P.2) (hl : Wrt P M f) (hp : 0 < mN M) (d : decode (mB M) pc = .ok (.putfield idx, 3)) (g : Go P M (pc + 3) L st (none, [(k, sI s f x)]) out) : Go P M pc L (.int x :: .ref 1 :: st) (none, [(k, s)]) out :=
  go_putV F hM hl.use hp (fun _ _ => rfl) rfl rfl (by simp [scV, gI_sI]) (fun f' y _ h => scV_sI s f x _ f' h) rfl rfl d g
theorem go_putZ {idx f : Nat} (F : FldS P idx f .boolean) (hM : (mY M).cls = cN P.2) (hl : Wrt P M f) (hp : 0 < mN M) (hz : x = 0 ∨ x = 1) (d : decode (mB M) pc = .ok (.putfield idx, 3)) (g : Go P M (pc + 3) L st (none, [(k, sI s f x)]) out) : Go P M pc L (.int x :: .ref 1 :: st) (none, [(k, s)]) out :=
  go_putV F hM hl.use hp (fun _ _ => rfl) (by rcases hz with rfl | rfl <;> rfl) (by rcases hz with rfl | rfl <;> rfl) (by simp [scV, gI_sI]) (fun f' y _ h => scV_sI s f x _ f' h) rfl rfl d g
theorem go_putJ {idx f : Nat} (F : FldS P idx f .long) (hM : (mY M).cls = cN P.2) (hl : Wrt P M f) (hp : 0 < mN M) (d : decode (mB M) pc = .ok (.putfield idx, 3)) (g : Go P M (pc + 3) L st (none, [(k, sL s f u)]) out) : Go P M pc L (.long u :: .ref 1 :: st) (none, [(k, s)]) out :=
  go_putV F hM hl.use hp (fun _ _ => rfl) rfl rfl (by simp [scV, gL_sL]) (fun f' y _ h => scV_sL s f u _ f' h) rfl rfl d g
/-! ### arrays -/
theorem ix_some {A : Type} {l : List A} {j : Int32} {x : A} (h : ix l j = some x) : ¬ j < 0 ∧ l[j.toNatClampNeg]? = some x := by
  unfold ix at h; split at h
  · cases h
  · rename_i q; exact ⟨q, h⟩
theorem st_some {A : Type} {l l' : List A} {j : Int32} {x : A} (h : Jvm.AM.st l j x = some l') : ¬ j < 0 ∧ j.toNatClampNeg < l.length ∧ l' = l.set j.toNatClampNeg x := by
  unfold Jvm.AM.st at h; split at h
  · cases h
  · rename_i q; split at h
    · rename_i q2; cases h; exact ⟨q, q2, rfl⟩
    · cases h
theorem ar_in {c : Cell} {vs : List Value} {j : Int32} {vv : Value} (e : c.slots = vs.toArray) (h1 : ¬ j < 0) (h2 : vs[j.toNatClampNeg]? = some vv) : ¬ (j < 0 ∨ c.slots.size ≤ j.toNatClampNeg) ∧ c.slots[j.toNatClampNeg]? = some vv := by
  have := get_lt h2
  refine ⟨fun q => ?_, by rw [e]; simpa using h2⟩
  rcases q with q | q
  · exact h1 q
  · rw [e] at q; simp at q; omega
theorem go_iaload {q : Nat} {j : Int32} {nm ds : String} {cap : Nat} (ha : (cA P.2)[q]? = some (nm, ds, .int, cap)) (hq : Nat.blt q k = true) (hx : ix (gA s q) j = some v) (d : decode (mB M) pc = .ok (.iaload, 1)) (g : Go P M (pc + 1) L (.int v :: st) (none, [(k, s)]) out) : Go P M pc L (.int j :: .ref (q + 2) :: st) (none, [(k, s)]) out :=
  go_ch (fun l Z a0 p e R s1 m args below meth c α b n0 h0 uC uS ok hl T locs cells slots I => by
    obtain ⟨cl, A, ec⟩ := (rep_one I.2.1).2.2.2 q _ ha (by simpa [Nat.blt_eq] using hq)
    obtain ⟨h1, h2⟩ := ix_some hx
    obtain ⟨h3, h4⟩ := ar_in ec h1 (vv := .int v) (by simp [arV, h2])
    refine ⟨T, locs, cells, slots, I, fun target r => ?_⟩
    refine I.1.iaload ok.2.2.1 (j := j) (v := .int v) A.1 (State.isArrayOf_alike ok.2.2.2.1.alike A.2.1) A.2.2 h3 h4 (g := mkF m pc (cL α b L) (.int j :: .ref (b + 1 + q) :: cV α b st)) rfl rfl (hb ok.2.2.2.2.2.1 d) _ r |> fun t => ?_
    rw [show cV α b (.int j :: .ref (q + 2) :: st) = .int j :: .ref (b + (q + 1)) :: cV α b st from rfl, show b + (q + 1) = b + 1 + q by omega]
    exact t) g
theorem go_laload {q : Nat} {j : Int32} {nm ds : String} {cap : Nat} (ha : (cA P.2)[q]? = some (nm, ds, .long, cap)) (hq : Nat.blt q k = true) (hx : ix (gB s q) j = some u) (d : decode (mB M) pc = .ok (.laload, 1)) (g : Go P M (pc + 1) L (.long u :: st) (none, [(k, s)]) out) : Go P M pc L (.int j :: .ref (q + 2) :: st) (none, [(k, s)]) out :=
  go_ch (fun l Z a0 p e R s1 m args below meth c α b n0 h0 uC uS ok hl T locs cells slots I => by
    obtain ⟨cl, A, ec⟩ := (rep_one I.2.1).2.2.2 q _ ha (by simpa [Nat.blt_eq] using hq)
    obtain ⟨h1, h2⟩ := ix_some hx
    obtain ⟨h3, h4⟩ := ar_in ec h1 (vv := .long u) (by simp [arV, h2])
    refine ⟨T, locs, cells, slots, I, fun target r => ?_⟩
    refine I.1.laload ok.2.2.1 (j := j) (v := .long u) A.1 (State.isArrayOf_alike ok.2.2.2.1.alike A.2.1) A.2.2 h3 h4 (g := mkF m pc (cL α b L) (.int j :: .ref (b + 1 + q) :: cV α b st)) rfl rfl (hb ok.2.2.2.2.2.1 d) _ r |> fun t => ?_
    rw [show cV α b (.int j :: .ref (q + 2) :: st) = .int j :: .ref (b + (q + 1)) :: cV α b st from rfl, show b + (q + 1) = b + 1 + q by omega]
    exact t) g
theorem go_baload {q : Nat} {j : Int32} {nm ds : String} {ty : FieldType} {cap : Nat} (ha : (cA P.2)[q]? = some (nm, ds, ty, cap)) (hty : ty = .boolean ∨ ty = .byte) (hq : Nat.blt q k = true) (hx : ix (gA s q) j = some v) (d : decode (mB M) pc = .ok (.baload, 1)) (g : Go P M (pc + 1) L (.int v :: st) (none, [(k, s)]) out) : Go P M pc L (.int j :: .ref (q + 2) :: st) (none, [(k, s)]) out :=
  go_ch (fun l Z a0 p e R s1 m args below meth c α b n0 h0 uC uS ok hl T locs cells slots I => by
    obtain ⟨cl, A, ec⟩ := (rep_one I.2.1).2.2.2 q _ ha (by simpa [Nat.blt_eq] using hq)
    obtain ⟨h1, h2⟩ := ix_some hx
    refine ⟨T, locs, cells, slots, I, fun target r => ?_⟩
    rw [show cV α b (.int j :: .ref (q + 2) :: st) = .int j :: .ref (b + (q + 1)) :: cV α b st from rfl, show b + (q + 1) = b + 1 + q by omega]
    rcases hty with rfl | rfl
    · obtain ⟨h3, h4⟩ := ar_in ec h1 (vv := .int v) (by simp [arV, h2])
      exact I.1.baloadBooleans ok.2.2.1 (j := j) (v := .int v) A.1 (State.isArrayOf_alike ok.2.2.2.1.alike A.2.1) A.2.2 h3 h4 (g := mkF m pc (cL α b L) (.int j :: .ref (b + 1 + q) :: cV α b st)) rfl rfl (hb ok.2.2.2.2.2.1 d) _ r
    · obtain ⟨h3, h4⟩ := ar_in ec h1 (vv := .int v) (by simp [arV, h2])
      exact I.1.baloadBytes ok.2.2.1 (j := j) (v := .int v) A.1 (State.isArrayOf_alike ok.2.2.2.1.alike A.2.1) A.2.2 h3 h4 (g := mkF m pc (cL α b L) (.int j :: .ref (b + 1 + q) :: cV α b st)) rfl rfl (hb ok.2.2.2.2.2.1 d) _ r) g
theorem go_alen {q : Nat} {nm ds : String} {ty : FieldType} {cap : Nat} (ha : (cA P.2)[q]? = some (nm, ds, ty, cap)) (hty : ty ≠ .long) (hq : Nat.blt q k = true) (d : decode (mB M) pc = .ok (.arraylength, 1)) (g : Go P M (pc + 1) L (.int (gA s q).length.toInt32 :: st) (none, [(k, s)]) out) : Go P M pc L (.ref (q + 2) :: st) (none, [(k, s)]) out :=
  go_ch (fun l Z a0 p e R s1 m args below meth c α b n0 h0 uC uS ok hl T locs cells slots I => by
    obtain ⟨cl, A, ec⟩ := (rep_one I.2.1).2.2.2 q _ ha (by simpa [Nat.blt_eq] using hq)
    refine ⟨T, locs, cells, slots, I, fun target r => ?_⟩
    have e1 : cl.slots.size = (gA s q).length := by rw [ec]; cases ty <;> simp [arV] at hty ⊢
    rw [show cV α b (.ref (q + 2) :: st) = .ref (b + (q + 1)) :: cV α b st from rfl, show b + (q + 1) = b + 1 + q by omega]
    refine I.1.arraylength ok.2.2.1 (cell := cl) A.1 (State.isArrayOf_alike ok.2.2.2.1.alike A.2.1) (g := mkF m pc (cL α b L) (.ref (b + 1 + q) :: cV α b st)) rfl rfl (hb ok.2.2.2.2.2.1 d) _ ?_
    rw [e1]; exact r) g
theorem go_sload {l0 : List Int32} {os : List (Nat × S)} {j : Int32} (hx : ix l0 j = some v) (d : decode (mB M) pc = .ok (.iaload, 1)) (g : Go P M (pc + 1) L (.int v :: st) (some l0, os) out) : Go P M pc L (.int j :: .ref 0 :: st) (some l0, os) out :=
  go_ch (fun l Z a0 p e R s1 m args below meth c α b n0 h0 uC uS ok hl T locs cells slots I => by
    obtain ⟨cl, A, ec⟩ := (I.2.1.1 l0 rfl).1
    obtain ⟨h1, h2⟩ := ix_some hx
    obtain ⟨h3, h4⟩ := ar_in ec h1 (vv := .int v) (by simp [h2])
    exact ⟨T, locs, cells, slots, I, fun target r => I.1.iaload ok.2.2.1 (j := j) (v := .int v) A.1 (State.isArrayOf_alike ok.2.2.2.1.alike A.2.1) A.2.2 h3 h4 (g := mkF m pc (cL α b L) (cV α b (.int j :: .ref 0 :: st))) rfl rfl (hb ok.2.2.2.2.2.1 d) _ r⟩) g
theorem go_slen {l0 : List Int32} {os : List (Nat × S)} (d : decode (mB M) pc = .ok (.arraylength, 1)) (g : Go P M (pc + 1) L (.int l0.length.toInt32 :: st) (some l0, os) out) : Go P M pc L (.ref 0 :: st) (some l0, os) out :=
  go_ch (fun l Z a0 p e R s1 m args below meth c α b n0 h0 uC uS ok hl T locs cells slots I => by
    obtain ⟨cl, A, ec⟩ := (I.2.1.1 l0 rfl).1
    refine ⟨T, locs, cells, slots, I, fun target r => ?_⟩
    have e1 : cl.slots.size = l0.length := by rw [ec]; simp
    refine I.1.arraylength ok.2.2.1 (cell := cl) A.1 (State.isArrayOf_alike ok.2.2.2.1.alike A.2.1) (g := mkF m pc (cL α b L) (cV α b (.ref 0 :: st))) rfl rfl (hb ok.2.2.2.2.2.1 d) _ ?_
    rw [e1]; exact r) g
/-- a component of an array of the object takes its value -/
theorem rep_store {Z : State} {ci : CI} {h h' : Heap} {b : Nat} {s s' : S} {k q i : Nat} {nm ds : String} {ty : FieldType} {cap : Nat} {vv : Value} (F : Rep1 Z ci h b (k, s)) (hf : (cA ci)[q]? = some (nm, ds, ty, cap)) (hq : q < k)
    (Wt : Wr h h' (b + 1 + q) i vv) (hi : i < (arV ty s q).length) (hv : arV ty s' q = (arV ty s q).set i vv) (ho : ∀ q' x, (cA ci)[q']? = some x → q' ≠ q → arV x.2.2.1 s' q' = arV x.2.2.1 s q') (ha : gI s' = gI s) (hbb : gL s' = gL s) : Rep1 Z ci h' b (k, s') := by
  obtain ⟨f1, f2, f3, f4⟩ := F
  refine ⟨f1.wr Wt, fun f x hx => ?_, fun q' x hx => (f3 q' x hx).other Wt (Or.inl (nq (by omega))), fun q' x hx hq' => ?_⟩
  · have e : scV x.2.2 s' f = scV x.2.2 s f := by unfold scV; split <;> simp [ha, hbb]
    show Fld Z h' b (cN ci) x.1 x.2.1 (scV x.2.2 s' f)
    rw [e]
    exact (f2 f x hx).other Wt (Or.inl (nq (by omega)))
  · by_cases e : q' = q
    · subst e
      cases hf.symm.trans hx
      obtain ⟨c, A, ec⟩ := f4 q' _ hf hq
      refine ⟨_, A.same Wt, ?_⟩
      show (c.setSlot i vv).slots = (arV ty s' q').toArray
      rw [hv]
      simp only [Cell.setSlot, ec]
      simp
    · obtain ⟨c, A, ec⟩ := f4 q' x hx hq'
      refine ⟨c, A.other Wt (nq (by omega)), ec.trans ?_⟩
      rw [ho q' x hx e]
theorem arV_sA (s : S) (q : Nat) (l : List Int32) (ty : FieldType) (q' : Nat) (h : q' ≠ q) : arV ty (sA s q l) q' = arV ty s q' := by
  unfold arV; split <;> simp [gA_sA, gB_sA, h]
theorem arV_sB (s : S) (q : Nat) (l : List Int64) (ty : FieldType) (q' : Nat) (h : q' ≠ q) : arV ty (sB s q l) q' = arV ty s q' := by
  unfold arV; split <;> simp [gA_sB, gB_sB, h]
theorem in_of {c : Cell} {vs : List Value} {j : Int32} (e : c.slots = vs.toArray) (h1 : ¬ j < 0) (h2 : j.toNatClampNeg < vs.length) : ¬ (j < 0 ∨ c.slots.size ≤ j.toNatClampNeg) := fun q => by
  rcases q with q | q
  · exact h1 q
  · rw [e] at q; simp at q; omega
theorem go_iastore {q : Nat} {j : Int32} {nm ds : String} {cap : Nat} {l' : List Int32} (ha : (cA P.2)[q]? = some (nm, ds, .int, cap)) (hq : Nat.blt q k = true) (hp : 0 < mN M) (hx : Jvm.AM.st (gA s q) j x = some l') (d : decode (mB M) pc = .ok (.iastore, 1)) (g : Go P M (pc + 1) L st (none, [(k, sA s q l')]) out) : Go P M pc L (.int x :: .int j :: .ref (q + 2) :: st) (none, [(k, s)]) out :=
  go_ch (fun l Z a0 p e R s1 m args below meth c α b n0 h0 uC uS ok hl T locs cells slots I => by
    have hq' : q < k := by simpa [Nat.blt_eq] using hq
    have hqK := get_lt ha
    obtain ⟨X, Rp, Fm, Nl, hs, u1, u2, c1, c2, hN⟩ := I
    obtain ⟨cl, A, ec⟩ := (rep_one Rp).2.2.2 q _ ha hq'
    obtain ⟨h1, h2, rfl⟩ := st_some hx
    have hin := in_of ec h1 (by simpa [arV] using h2)
    obtain ⟨T', h', X', e', Wt, stp⟩ := stI X ok.2.2.1 ok.2.2.2.1 rfl A (x := x) hin (g := mkF m pc (cL α b L) (.int x :: .int j :: .ref (b + 1 + q) :: cV α b st)) rfl rfl (hb ok.2.2.2.2.2.1 d)
    refine ⟨T', _, cells, slots, ⟨X', rep_mk (by rw [e']; exact rep_store (rep_one Rp) ha hq' Wt (by simpa [arV] using h2) (by simp [arV, gA_sA, List.map_set]) (fun q' y _ h => arV_sA s q _ _ q' h) rfl rfl), by rw [e']; exact Fm.wr Wt (by omega) (by have := Nat.mul_le_mul_left (cK P.2 + 1) hp; simp only [cK] at *; omega), Fr.snoc X' Nl (by have := ok.2.2.2.2.2.2.2.2.2.2.1; omega), by rw [e', Wt.size]; exact hs, u1, u2, c1, c2, hN⟩, fun target r => ?_⟩
    rw [show cV α b (.int x :: .int j :: .ref (q + 2) :: st) = .int x :: .int j :: .ref (b + (q + 1)) :: cV α b st from rfl, show b + (q + 1) = b + 1 + q by omega]
    exact stp target r) g
theorem go_lastore {q : Nat} {j : Int32} {nm ds : String} {cap : Nat} {l' : List Int64} (ha : (cA P.2)[q]? = some (nm, ds, .long, cap)) (hq : Nat.blt q k = true) (hp : 0 < mN M) (hx : Jvm.AM.st (gB s q) j u = some l') (d : decode (mB M) pc = .ok (.lastore, 1)) (g : Go P M (pc + 1) L st (none, [(k, sB s q l')]) out) : Go P M pc L (.long u :: .int j :: .ref (q + 2) :: st) (none, [(k, s)]) out :=
  go_ch (fun l Z a0 p e R s1 m args below meth c α b n0 h0 uC uS ok hl T locs cells slots I => by
    have hq' : q < k := by simpa [Nat.blt_eq] using hq
    have hqK := get_lt ha
    obtain ⟨X, Rp, Fm, Nl, hs, u1, u2, c1, c2, hN⟩ := I
    obtain ⟨cl, A, ec⟩ := (rep_one Rp).2.2.2 q _ ha hq'
    obtain ⟨h1, h2, rfl⟩ := st_some hx
    have hin := in_of ec h1 (by simpa [arV] using h2)
    obtain ⟨T', h', X', e', Wt, stp⟩ := stJ X ok.2.2.1 ok.2.2.2.1 rfl A (x := u) hin (g := mkF m pc (cL α b L) (.long u :: .int j :: .ref (b + 1 + q) :: cV α b st)) rfl rfl (hb ok.2.2.2.2.2.1 d)
    refine ⟨T', _, cells, slots, ⟨X', rep_mk (by rw [e']; exact rep_store (rep_one Rp) ha hq' Wt (by simpa [arV] using h2) (by simp [arV, gB_sB, List.map_set]) (fun q' y _ h => arV_sB s q _ _ q' h) rfl rfl), by rw [e']; exact Fm.wr Wt (by omega) (by have := Nat.mul_le_mul_left (cK P.2 + 1) hp; simp only [cK] at *; omega), Fr.snoc X' Nl (by have := ok.2.2.2.2.2.2.2.2.2.2.1; omega), by rw [e', Wt.size]; exact hs, u1, u2, c1, c2, hN⟩, fun target r => ?_⟩
    rw [show cV α b (.long u :: .int j :: .ref (q + 2) :: st) = .long u :: .int j :: .ref (b + (q + 1)) :: cV α b st from rfl, show b + (q + 1) = b + 1 + q by omega]
    exact stp target r) g
theorem go_bastore {q : Nat} {j : Int32} {nm ds : String} {ty : FieldType} {cap : Nat} {l' : List Int32} (ha : (cA P.2)[q]? = some (nm, ds, ty, cap)) (hty : ty = .boolean ∨ ty = .byte) (hq : Nat.blt q k = true) (hp : 0 < mN M) (hv : v = nar ty x) (hx : Jvm.AM.st (gA s q) j v = some l') (d : decode (mB M) pc = .ok (.bastore, 1)) (g : Go P M (pc + 1) L st (none, [(k, sA s q l')]) out) : Go P M pc L (.int x :: .int j :: .ref (q + 2) :: st) (none, [(k, s)]) out :=
  go_ch (fun l Z a0 p e R s1 m args below meth c α b n0 h0 uC uS ok hl T locs cells slots I => by
    have hq' : q < k := by simpa [Nat.blt_eq] using hq
    have hqK := get_lt ha
    obtain ⟨X, Rp, Fm, Nl, hs, u1, u2, c1, c2, hN⟩ := I
    obtain ⟨cl, A, ec⟩ := (rep_one Rp).2.2.2 q _ ha hq'
    obtain ⟨h1, h2, rfl⟩ := st_some hx
    subst hv
    have hlen : j.toNatClampNeg < (arV ty s q).length := by rcases hty with rfl | rfl <;> simpa [arV] using h2
    have hset : arV ty (sA s q ((gA s q).set j.toNatClampNeg (nar ty x))) q = (arV ty s q).set j.toNatClampNeg (.int (nar ty x)) := by rcases hty with rfl | rfl <;> simp [arV, gA_sA, List.map_set]
    have hin := in_of ec h1 hlen
    obtain ⟨T', h', X', e', Wt, stp⟩ : ∃ T' h', Stand p l e R s1 m args below meth c T' (locs ++ [⟨b + 1 + q, j.toNatClampNeg⟩]) cells slots ∧ T'.heap = h' ∧ Wr T.heap h' (b + 1 + q) j.toNatClampNeg (.int (nar ty x)) ∧ ∀ target, Steps p.tables e below (T'.setTop (mkF m (pc + 1) (cL α b L) (cV α b st))) target → Steps p.tables e below (T.setTop (mkF m pc (cL α b L) (.int x :: .int j :: .ref (b + 1 + q) :: cV α b st))) target := by
      rcases hty with rfl | rfl
      · exact stZ X ok.2.2.1 ok.2.2.2.1 rfl A (x := x) hin (g := mkF m pc (cL α b L) (.int x :: .int j :: .ref (b + 1 + q) :: cV α b st)) rfl rfl (hb ok.2.2.2.2.2.1 d)
      · exact stB X ok.2.2.1 ok.2.2.2.1 rfl A (x := x) hin (g := mkF m pc (cL α b L) (.int x :: .int j :: .ref (b + 1 + q) :: cV α b st)) rfl rfl (hb ok.2.2.2.2.2.1 d)
    refine ⟨T', _, cells, slots, ⟨X', rep_mk (by rw [e']; exact rep_store (rep_one Rp) ha hq' Wt hlen hset (fun q' y _ h => arV_sA s q _ _ q' h) rfl rfl), by rw [e']; exact Fm.wr Wt (by omega) (by have := Nat.mul_le_mul_left (cK P.2 + 1) hp; simp only [cK] at *; omega), Fr.snoc X' Nl (by have := ok.2.2.2.2.2.2.2.2.2.2.1; omega), by rw [e', Wt.size]; exact hs, u1, u2, c1, c2, hN⟩, fun target r => ?_⟩
    rw [show cV α b (.int x :: .int j :: .ref (q + 2) :: st) = .int x :: .int j :: .ref (b + (q + 1)) :: cV α b st from rfl, show b + (q + 1) = b + 1 + q by omega]
    exact stp target r) g
/-! ## 5. A method as a whole; calls -/
def Call (P : PI) (M : Meth) (as : List Value) (w : W) (out : Option Value × W) : Prop :=
  ∀ (l : Launch) (Z : State) (a0 : Array Value) (ws : List Jvm.Cond) (α b n0 : Nat) (h0 : Heap), (∀ d ∈ P.1, d.before a0 Z = true) → Facts Z a0 P.2 → n0 ≤ b → RepW Z P.2 α b w h0 → w.2.length ≤ mN M → (mTop M = true → h0.size = b + usedC w ∧ usedC w = mUC M ∧ usedS P.2 w = mUS M) →
    MetFree l (mY M) (head1 (Jvm.Cond.code (mY M) (mB M) (mL M) (mT M) :: ws) (mR M)) (fun a U => a = (cV α b as).toArray ∧ Z.Warmed39 U.vm ∧ U.heap = h0) (fun _ _ _ _ _ => True)
      (fun _ U o U' => ∃ v L, o = .returned v ∧ (v = out.1.map (con α b) ∧ Fr n0 L ∧ RepW Z P.2 α b out.2 U'.heap ∧ Frm b (b + (cK P.2 + 1) * mN M) h0 U'.heap ∧ ∃ k, U'.heap.size = h0.size + k ∧ k + usedC w = usedC out.2) ∧ FrameEnd U o U' L (mR M).cells (mR M).slots)
theorem call_of_go {as : List Value} (hpl : plainName (mY M).cls = true) (hlen : (entryL as (mL M)).length = mL M) (hret : mT M = none → out.1 = none) (g : Go P M 0 (entryL as (mL M)) [] w out) : Call P M as w out := by
  intro l Z a0 ws α b n0 h0 hw fa hn0 Rp hN htop
  refine MetFree.of_bodySF (plainFor_of_name hpl) hisR ?_
  intro p e s m args below meth c s₁ Bd hml0 hP hK
  obtain ⟨rfl, hZ, hh⟩ := hP
  have X0 : Stand p l e (mR M) s m (cV α b as).toArray below meth c s₁ [] 0 0 := Stand.of_body Bd
  have e0 : s₁.heap = h0 := by rw [← hh, Bd.state]; rfl
  obtain ⟨T', L', c', n', I', fin⟩ := g hlen l Z a0 p e (mR M) s m (cV α b as).toArray below meth c α b n0 h0 (usedC w) (usedS P.2 w) ⟨hw, fa, Bd.exec, hZ, findClass_of_methodNamed Bd.named, Bd.bytes, hml0, Bd.returns, (name_of_methodNamed Bd.named Bd.method).1, rfl, hn0, htop, by rw [hh]⟩ s₁ [] 0 0 ⟨X0, by rw [e0]; exact Rp, by rw [e0]; exact Frm.refl _ _ _, Fr.nil _, by rw [e0]; rfl, by simp, by simp, Nat.zero_le _, Nat.zero_le _, hN⟩
  obtain ⟨X', Rp', Fm', Nl', hs', u1', u2', c1', c2', hN'⟩ := I'
  obtain ⟨fs, hr, hrun, hended, hW, hsame⟩ := X'.leave (v := out.1.map (con α b)) (fun h => by rw [Bd.returns] at h; rw [hret h]; rfl)
  refine ⟨_, _, ?_, hrun, hended, _, _, rfl, ⟨rfl, Nl', Rp', Fm', c', hs', u1'⟩, ⟨_, rfl⟩, hW, hsame.mono c1' c2'⟩
  have q := fin fs hr
  rw [← entry_locals] at q
  exact q
def nr : Value → Bool
  | .ref _ => false
  | _ => true
theorem con_nr {α b : Nat} {v : Value} (h : nr v = true) : con α b v = v := by
  cases v <;> first | rfl | cases h
theorem cV_nr {α b : Nat} {l : List Value} (h : l.all nr = true) : cV α b l = l := by
  have : ∀ x ∈ l, con α b x = x := fun x hx => con_nr (List.all_eq_true.mp h x hx)
  unfold cV
  exact (List.map_congr_left this).trans (List.map_id _)
theorem rep_obj {Z : State} {ci : CI} {α b : Nat} {h : Heap} {i : Nat} (F : RepW Z ci α b w h) (ho : w.2[i]? = some o) : RepW Z ci 0 (b + (cK ci + 1) * i) (none, [o]) h := rep_mk (F.2 i o ho)
theorem rep_back {Z : State} {ci : CI} {α α' b : Nat} {h h' : Heap} {i : Nat} (F : RepW Z ci α b w h) (ho : w.2[i]? = some o) (G : RepW Z ci α' (b + (cK ci + 1) * i) (none, [o']) h') (Fm : Frm (b + (cK ci + 1) * i) (b + (cK ci + 1) * i + (cK ci + 1) * 1) h h') : RepW Z ci α b (w.1, w.2.set i o') h' := by
  refine ⟨fun l hl => ⟨((F.1 l hl).1).frm fun c q => Fm _ _ q (Or.inl ?_), (F.1 l hl).2⟩, fun j oj hj => ?_⟩
  · have := (F.1 l hl).2; exact Nat.lt_of_lt_of_le this (Nat.le_add_right _ _)
  · by_cases e : j = i
    · subst e
      rw [show (w.1, w.2.set j o').2 = w.2.set j o' from rfl, List.getElem?_set_self (get_lt ho)] at hj
      cases hj
      exact rep_one G
    · rw [show (w.1, w.2.set i o').2 = w.2.set i o' from rfl, List.getElem?_set_ne (Ne.symm e)] at hj
      refine (F.2 j oj hj).frm fun x c q1 q2 q3 => Fm _ _ q3 ?_
      rcases Nat.lt_or_gt_of_ne e with q | q
      · have := Nat.mul_le_mul_left (cK ci + 1) q
        rw [Nat.mul_succ] at this; omega
      · have := Nat.mul_le_mul_left (cK ci + 1) q
        rw [Nat.mul_succ] at this; omega
theorem sum_set {A : Type} (f : A → Nat) {a a' : A} : ∀ {l : List A} {i : Nat}, l[i]? = some a → ((l.set i a').map f).sum + f a = (l.map f).sum + f a'
  | [], i, h => by simp at h
  | b :: r, 0, h => by simp at h; subst h; simp; omega
  | b :: r, i + 1, h => by
    simp only [List.getElem?_cons_succ] at h
    have := sum_set f (a' := a') h
    simp only [List.set_cons_succ, List.map_cons, List.sum_cons]; omega
def CQ (ci : CI) (Z : State) (α b n0 : Nat) (h0 : Heap) (N : Nat) (w : W) (out : Option Value × W) (v : Option Value) (hp : Heap) (L : List Loc) : Prop := v = out.1.map (con α b) ∧ Fr n0 L ∧ RepW Z ci α b out.2 hp ∧ Frm b (b + (cK ci + 1) * N) h0 hp ∧ ∃ k, hp.size = h0.size + k ∧ k + usedC w = usedC out.2
/-- what a callee that makes nothing must fit into -/
def Small (M M' : Meth) (rest : List Value) : Prop := (mR M').cells = 0 ∧ (mR M').slots = 0 ∧ mTop M' = false ∧ Nat.ble ((mR M').frames + 1) (mR M).frames = true ∧ Nat.ble ((rest.map fun v => v.category).sum + (mL M' + 11) + (mR M').locals) (mR M).locals = true
theorem ret_st {α b b' : Nat} {r : Option Value} {rest : List Value} (hr : r.all nr = true) : (r.map (con 0 b')).toList ++ cV α b rest = cV α b (r.toList ++ rest) := by
  cases r with
  | none => rfl
  | some v => simp only [Option.map_some, Option.toList_some, cV, List.cons_append, List.nil_append, List.map_cons]; rw [con_nr (show nr v = true from hr), con_nr (show nr v = true from hr)]
theorem inv_obj {l : Launch} {Z : State} {p : Program} {e : Env} {R : Room} {s : State} {m : MethodId} {args : Array Value} {below : List Frame} {meth : Method} {c : Code} {α b n0 : Nat} {h0 : Heap} {uC uS : Nat} {T T2 : State} {locs L2 : List Loc} {cells slots rc rs i : Nat}
    (I : Inv P M l Z p e R s m args below meth c α b n0 h0 uC uS w T locs cells slots) (ho : w.2[i]? = some o) (X2 : Stand p l e R s m args below meth c T2 (locs ++ L2) (cells + rc) (slots + rs))
    (N2 : Fr n0 L2) (R2 : RepW Z P.2 0 (b + (cK P.2 + 1) * i) (none, [o']) T2.heap) (F2 : Frm (b + (cK P.2 + 1) * i) (b + (cK P.2 + 1) * i + (cK P.2 + 1) * 1) T.heap T2.heap) (k2 : ∃ k, T2.heap.size = T.heap.size + k ∧ k + usedC (none, [o]) = usedC (none, [o']))
    (hC : o'.1 = o.1 + rc) (hS : usedS P.2 (none, [o']) = usedS P.2 (none, [o]) + rs) (q1 : cells + rc ≤ R.cells) (q2 : slots + rs ≤ R.slots) : Inv P M l Z p e R s m args below meth c α b n0 h0 uC uS (w.1, w.2.set i o') T2 (locs ++ L2) (cells + rc) (slots + rs) := by
  obtain ⟨X, Rp, Fm, Nl, hs, u1, u2, c1, c2, hN⟩ := I
  obtain ⟨k, k1, k3⟩ := k2
  have hi := get_lt ho
  have a1 := sum_set (fun o : Nat × S => 1 + o.1) (a' := o') ho
  have a2 := sum_set (fun o : Nat × S => cF P.2 + (((cA P.2).take o.1).map fun x => x.2.2.2).sum) (a' := o') ho
  have hle : (cK P.2 + 1) * (i + 1) ≤ (cK P.2 + 1) * mN M := Nat.mul_le_mul_left _ (by omega)
  rw [Nat.mul_succ] at hle
  refine ⟨X2, rep_back Rp ho R2 F2, Fm.trans (F2.wide (Nat.le_add_right _ _) (by omega)), Nl.app N2, ?_, ?_, ?_, q1, q2, by simpa using hN⟩
  · simp only [usedC, List.map_cons, List.map_nil, List.sum_cons, List.sum_nil] at k3; omega
  · simp only [usedC] at u1 ⊢; omega
  · simp only [usedS, List.map_cons, List.map_nil, List.sum_cons, List.sum_nil] at u2 hS ⊢; omega
def LinkV (P : PI) (own : String) (idx : Nat) (M' : Meth) : Prop := Jvm.Cond.methodLink own idx (mY M') ∈ P.1 ∧ Jvm.Cond.declares (mY M') ∈ P.1 ∧ Jvm.Cond.selects (cN P.2) (mY M') (mY M') ∈ P.1 ∧ Jvm.Cond.instanceMethod (mY M') ∈ P.1 ∧ Jvm.Cond.code (mY M') (mB M') (mL M') (mT M') ∈ P.1 ∧ (mY M').cls = cN P.2 ∧ mN M' = 1
def LinkP (P : PI) (own : String) (idx : Nat) (M' : Meth) : Prop := Jvm.Cond.methodLink own idx (mY M') ∈ P.1 ∧ Jvm.Cond.instanceMethod (mY M') ∈ P.1 ∧ Jvm.Cond.privateMethod (mY M') ∈ P.1 ∧ Jvm.Cond.code (mY M') (mB M') (mL M') (mT M') ∈ P.1 ∧ (mY M').cls = cN P.2 ∧ mN M' = 1
def LinkS (P : PI) (own : String) (idx : Nat) (M' : Meth) : Prop := Jvm.Cond.methodLink own idx (mY M') ∈ P.1 ∧ Jvm.Cond.static (mY M') ∈ P.1 ∧ Jvm.Cond.initialized (mY M').cls ∈ P.1 ∧ Jvm.Cond.code (mY M') (mB M') (mL M') (mT M') ∈ P.1 ∧ ((mY M').cls ≠ "java/lang/invoke/MethodHandle" ∧ (mY M').cls ≠ "java/lang/invoke/VarHandle")
def LinkI (P : PI) (own : String) (idx : Nat) (M' : Meth) : Prop := Jvm.Cond.methodLink own idx (mY M') ∈ P.1 ∧ Jvm.Cond.instanceMethod (mY M') ∈ P.1 ∧ Jvm.Cond.code (mY M') (mB M') (mL M') (mT M') ∈ P.1 ∧ (mY M').cls = cN P.2 ∧ mN M' = 1 ∧ mT M' = none ∧ (mY M').name = "<init>"
variable {M' : Meth} {i idx id : Nat} {as rest : List Value} {rv : Option Value} {ps : List FieldType} {rt : Option FieldType}
theorem cV_call {α b : Nat} {jd : Nat} (hnr : as.all nr = true) (hst : st = as.reverse ++ .ref (jd + 1) :: rest) : cV α b st = as.reverse ++ .ref (b + jd) :: cV α b rest := by
  subst hst
  have h1 : cV α b as.reverse = as.reverse := cV_nr (by rw [List.all_reverse]; exact hnr)
  unfold cV at h1 ⊢
  rw [List.map_append, h1]; rfl
theorem go_virt (lk : LinkV P (mY M).cls idx M') (pd : parseMethodDescriptor (mY M').desc = some ⟨ps, rt⟩) (hn : as.length = ps.length) (hid : id = (cK P.2 + 1) * i + 1) (hst : st = as.reverse ++ .ref id :: rest) (hnr : as.all nr = true) (hrr : rv.all nr = true) (ho : w.2[i]? = some o) (hw' : w' = (w.1, w.2.set i o')) (hC : o'.1 = o.1) (sm : Small M M' rest)
    (d : decode (mB M) pc = .ok (.invokevirtual idx, 3)) (cl : Call P M' (.ref 1 :: as) (none, [o]) (rv, (none, [o']))) (g : Go P M (pc + 3) L (rv.toList ++ rest) w' out) : Go P M pc L st w out :=
  go_ch (fun l Z a0 p e R s1 m args below meth c α b n0 h0 uC uS ok hl T locs cells slots I => by
    subst hw' hid
    obtain ⟨hw, fa, hx, hZ, hown, hc, hml, hret, hnm, hR, hn0, htop, hsz⟩ := ok
    obtain ⟨k1, k2, k3, k4, k5, k6, k7⟩ := lk
    obtain ⟨z1, z2, z3, z4, z5⟩ := sm
    have C := cl l Z a0 [] 0 (b + (cK P.2 + 1) * i) n0 T.heap hw fa (Nat.le_trans hn0 (Nat.le_add_right _ _)) (rep_obj I.2.1 ho) (by rw [k7]; exact Nat.le_refl _) (fun q => by rw [z3] at q; cases q)
    have Bk := backOf (Q := CQ P.2 Z 0 (b + (cK P.2 + 1) * i) n0 T.heap (mN M') (none, [o]) (rv, (none, [o']))) (R := R) (p := p) (e := e) (below := below) (s := s1) (args := args) (len := 3) (W := (rest.map fun v => v.category).sum) C hZ (hw _ k5) (by rw [k6]; exact fa.2.1) (by rw [hR]; exact Nat.le_of_ble_eq_true z4) (by rw [hR]; exact Nat.le_of_ble_eq_true z5)
    have E := (I.2.1.2 i o ho).1
    obtain ⟨cB, kB, q1, q2, q3⟩ := isOf (T := T) hZ rfl E
    obtain ⟨v, vm1, ⟨T2, Lx, kx, nx⟩, -, X2, ⟨L2, hQ, l2, y2, n2⟩, stp⟩ := I.1.virtualBack hx (y := mY M') (z := mY M') hown (mvT hZ (hw _ k1)) (mvT hZ (hw _ k2)) (notFace_of_selects (args := #[]) (mvT hZ (hw _ k3))) (mvT hZ (hw _ k3)) (mvT hZ (hw _ k4)) (by rw [k6]; exact fa.2.2.2.2.2.2) Bk q1 q3 (g := mkF m pc (cL α b L) (cV α b st)) rfl (by show (cL α b L).size = c.maxLocals; rw [cL_size, hl, hml]) (Steps.refl _) (argsL := as) (rest := cV α b rest) (lenOf pd hn) (cV_call hnr hst)
      (by show 2 * 0 + _ ≤ _; rw [cV_sum]; exact Nat.le_of_eq (Nat.zero_add _)) (hb hc d) (fun _ _ => ⟨by rw [show (cV 0 (b + (cK P.2 + 1) * i) (.ref 1 :: as)) = .ref (b + (cK P.2 + 1) * i) :: cV 0 (b + (cK P.2 + 1) * i) as from rfl, cV_nr hnr], rfl, by rw [z1]; exact I.2.2.2.2.2.2.2.1, by rw [z2]; exact I.2.2.2.2.2.2.2.2.1⟩)
    dsimp only [Pt.U, Pt.locs, Pt.cells, Pt.slots] at X2 l2 y2 n2 stp hQ
    subst l2 y2 n2
    obtain ⟨rfl, N2, R2, F2, k8⟩ := hQ
    rw [k7] at F2
    refine ⟨T2, _, _, _, inv_obj I ho X2 N2 R2 F2 k8 (by rw [z1]; exact hC) (by rw [z2]; simp [usedS, hC]) (by rw [z1]; exact I.2.2.2.2.2.2.2.1) (by rw [z2]; exact I.2.2.2.2.2.2.2.2.1), fun target r => stp.trans ?_⟩
    rw [← ret_st (b' := b + (cK P.2 + 1) * i) hrr] at r
    exact r) g
theorem go_priv (lk : LinkP P (mY M).cls idx M') (pd : parseMethodDescriptor (mY M').desc = some ⟨ps, rt⟩) (hn : as.length = ps.length) (hid : id = (cK P.2 + 1) * i + 1) (hst : st = as.reverse ++ .ref id :: rest) (hnr : as.all nr = true) (hrr : rv.all nr = true) (ho : w.2[i]? = some o) (hw' : w' = (w.1, w.2.set i o')) (hC : o'.1 = o.1) (sm : Small M M' rest)
    (d : decode (mB M) pc = .ok (.invokevirtual idx, 3)) (cl : Call P M' (.ref 1 :: as) (none, [o]) (rv, (none, [o']))) (g : Go P M (pc + 3) L (rv.toList ++ rest) w' out) : Go P M pc L st w out :=
  go_ch (fun l Z a0 p e R s1 m args below meth c α b n0 h0 uC uS ok hl T locs cells slots I => by
    subst hw' hid
    obtain ⟨hw, fa, hx, hZ, hown, hc, hml, hret, hnm, hR, hn0, htop, hsz⟩ := ok
    obtain ⟨k1, k4, k3, k5, k6, k7⟩ := lk
    obtain ⟨z1, z2, z3, z4, z5⟩ := sm
    have C := cl l Z a0 [] 0 (b + (cK P.2 + 1) * i) n0 T.heap hw fa (Nat.le_trans hn0 (Nat.le_add_right _ _)) (rep_obj I.2.1 ho) (by rw [k7]; exact Nat.le_refl _) (fun q => by rw [z3] at q; cases q)
    have Bk := backOf (Q := CQ P.2 Z 0 (b + (cK P.2 + 1) * i) n0 T.heap (mN M') (none, [o]) (rv, (none, [o']))) (R := R) (p := p) (e := e) (below := below) (s := s1) (args := args) (len := 3) (W := (rest.map fun v => v.category).sum) C hZ (hw _ k5) (by rw [k6]; exact fa.2.1) (by rw [hR]; exact Nat.le_of_ble_eq_true z4) (by rw [hR]; exact Nat.le_of_ble_eq_true z5)
    obtain ⟨cell, q1, q2⟩ := (I.2.1.2 i o ho).1.cell
    have hy : (mY M').cls ≠ "java/lang/invoke/MethodHandle" ∧ (mY M').cls ≠ "java/lang/invoke/VarHandle" := by rw [k6]; exact fa.2.2.2.2.2.2
    have hpriv : s1.PrivateAt (mY M') := Cond.privateMethod_at (mvP hZ (hw _ k3) (args := #[]))
    have hin : (Jvm.Cond.instanceMethod (mY M')).before args s1 = true := mvT hZ (hw _ k4)
    obtain ⟨c2, kk, i1, i2, i3, i4, -⟩ := Cond.instantiable_spec fa.1
    obtain ⟨k', j1, j2⟩ := hZ.alike.2.2 _ _ i2
    have hsel : (Jvm.Cond.selects (mY M').cls (mY M') (mY M')).before args s1 = true := selects_self_of_private (c := c2) (k := k') (by rw [k6, hZ.alike.findClass]; exact i1) j1 (by
      have : kk.isInterface = false := by simp only [Bool.or_eq_false_iff] at i4; exact i4.1
      rw [j2]; exact this) hpriv hin hy
    obtain ⟨v, vm1, ⟨T2, Lx, kx, nx⟩, -, X2, ⟨L2, hQ, l2, y2, n2⟩, stp⟩ := I.1.privateBack hx (y := mY M') hown (mvT hZ (hw _ k1)) hin hsel hpriv (mvT hZ (hw _ k5)) hy Bk (g := mkF m pc (cL α b L) (cV α b st)) rfl (by show (cL α b L).size = c.maxLocals; rw [cL_size, hl, hml]) (Steps.refl _) (a := b + (cK P.2 + 1) * i) q1 q2 (argsL := as) (rest := cV α b rest) (lenOf pd hn) (cV_call hnr hst)
      (by show 2 * 0 + _ ≤ _; rw [cV_sum]; exact Nat.le_of_eq (Nat.zero_add _)) (hb hc d) (fun _ _ => ⟨by rw [show (cV 0 (b + (cK P.2 + 1) * i) (.ref 1 :: as)) = .ref (b + (cK P.2 + 1) * i) :: cV 0 (b + (cK P.2 + 1) * i) as from rfl, cV_nr hnr], rfl, by rw [z1]; exact I.2.2.2.2.2.2.2.1, by rw [z2]; exact I.2.2.2.2.2.2.2.2.1⟩)
    dsimp only [Pt.U, Pt.locs, Pt.cells, Pt.slots] at X2 l2 y2 n2 stp hQ
    subst l2 y2 n2
    obtain ⟨rfl, N2, R2, F2, k8⟩ := hQ
    rw [k7] at F2
    refine ⟨T2, _, _, _, inv_obj I ho X2 N2 R2 F2 k8 (by rw [z1]; exact hC) (by rw [z2]; simp [usedS, hC]) (by rw [z1]; exact I.2.2.2.2.2.2.2.1) (by rw [z2]; exact I.2.2.2.2.2.2.2.2.1), fun target r => stp.trans ?_⟩
    rw [← ret_st (b' := b + (cK P.2 + 1) * i) hrr] at r
    exact r) g
theorem go_stat (lk : LinkS P (mY M).cls idx M') (pd : parseMethodDescriptor (mY M').desc = some ⟨ps, rt⟩) (hn : as.length = ps.length) (hst : st = as.reverse ++ rest) (hN' : mN M' ≤ mN M ∧ w.2.length ≤ mN M') (hu : usedC w' = usedC w ∧ usedS P.2 w' = usedS P.2 w ∧ w'.2.length = w.2.length) (sm : Small M M' rest)
    (d : decode (mB M) pc = .ok (.invokestatic idx, 3)) (cl : Call P M' as w (rv, w')) (g : Go P M (pc + 3) L (rv.toList ++ rest) w' out) : Go P M pc L st w out :=
  go_ch (fun l Z a0 p e R s1 m args below meth c α b n0 h0 uC uS ok hl T locs cells slots I => by
    obtain ⟨hw, fa, hx, hZ, hown, hc, hml, hret, hnm, hR, hn0, htop, hsz⟩ := ok
    obtain ⟨k1, k2, k3, k5, k6⟩ := lk
    obtain ⟨z1, z2, z3, z4, z5⟩ := sm
    have C := cl l Z a0 [] α b n0 T.heap hw fa hn0 I.2.1 hN'.2 (fun q => by rw [z3] at q; cases q)
    have Bk := backOf (Q := CQ P.2 Z α b n0 T.heap (mN M') w (rv, w')) (R := R) (p := p) (e := e) (below := below) (s := s1) (args := args) (len := 3) (W := (rest.map fun v => v.category).sum) C hZ (hw _ k5) (hw _ k3) (by rw [hR]; exact Nat.le_of_ble_eq_true z4) (by rw [hR]; exact Nat.le_of_ble_eq_true z5)
    obtain ⟨v, vm1, ⟨T2, Lx, kx, nx⟩, -, X2, ⟨L2, hQ, l2, y2, n2⟩, stp⟩ := Jvm.LawKit.callS I.1 hx (y := mY M') hown (mvT hZ (hw _ k1)) (mvT hZ (hw _ k2)) (mvT hZ (hw _ k3)) (mvT hZ (hw _ k5)) k6 Bk (g := mkF m pc (cL α b L) (cV α b st)) rfl (by show (cL α b L).size = c.maxLocals; rw [cL_size, hl, hml]) (argsL := cV α b as) (rest := cV α b rest) (lenOf pd (by simpa [cV] using hn)) (by subst hst; simp [cV])
      (by show 2 * 0 + _ ≤ _; rw [cV_sum]; exact Nat.le_of_eq (Nat.zero_add _)) (hb hc d) (fun _ _ => ⟨rfl, rfl, by rw [z1]; exact I.2.2.2.2.2.2.2.1, by rw [z2]; exact I.2.2.2.2.2.2.2.2.1⟩)
    dsimp only [Pt.U, Pt.locs, Pt.cells, Pt.slots] at X2 l2 y2 n2 stp hQ
    subst l2 y2 n2
    obtain ⟨rfl, N2, R2, F2, k, k8, k9⟩ := hQ
    obtain ⟨X, Rp, Fm, Nl, hs, u1, u2, c1, c2, hN⟩ := I
    rw [z1, z2] at X2
    refine ⟨T2, _, _, _, ⟨X2, R2, Fm.trans (F2.wide (Nat.le_refl _) (by have := Nat.mul_le_mul_left (cK P.2 + 1) hN'.1; omega)), Nl.app N2, ?_, ?_, ?_, c1, c2, by rw [hu.2.2]; exact hN⟩, fun target r => stp target ?_⟩
    · rw [k8]; have := hu.1; simp only at k9; omega
    · rw [hu.1]; exact u1
    · rw [hu.2.1]; exact u2
    · have e1 : cV α b (rv.toList ++ rest) = (rv.map (con α b)).toList ++ cV α b rest := by cases rv <;> rfl
      rw [e1] at r; exact r) g
/-- a constructor, by its contract -/
theorem go_init {k2 : Nat} {s2 : S} (lk : LinkI P (mY M).cls idx M') (pd : parseMethodDescriptor (mY M').desc = some ⟨ps, rt⟩) (hn : as.length = ps.length) (hid : id = (cK P.2 + 1) * i + 1) (hst : st = as.reverse ++ .ref id :: rest) (hnr : as.all nr = true) (ho : w.2[i]? = some (k, s)) (hw' : w' = (w.1, w.2.set i (k2, s2)))
    (hC : k2 = k + (mR M').cells) (hS : usedS P.2 (none, [(k2, s2)]) = usedS P.2 (none, [(k, s)]) + (mR M').slots) (htM : mTop M = true) (hR1 : Nat.ble (usedC w + (mR M').cells) ((mR M).cells + mUC M) = true) (hR2 : Nat.ble (usedS P.2 w + (mR M').slots) ((mR M).slots + mUS M) = true)
    (hq : usedC w = (cK P.2 + 1) * i + usedC (none, [(k, s)]) ∧ usedC (none, [(k, s)]) = mUC M' ∧ usedS P.2 (none, [(k, s)]) = mUS M') (sm : Nat.ble ((mR M').frames + 1) (mR M).frames = true ∧ Nat.ble ((rest.map fun v => v.category).sum + (mL M' + 11) + (mR M').locals) (mR M).locals = true)
    (d : decode (mB M) pc = .ok (.invokespecial idx, 3)) (cl : Call P M' (.ref 1 :: as) (none, [(k, s)]) (none, (none, [(k2, s2)]))) (g : Go P M (pc + 3) L rest w' out) : Go P M pc L st w out :=
  go_ch (fun l Z a0 p e R s1 m args below meth c α b n0 h0 uC uS ok hl T locs cells slots I => by
    subst hw' hid
    obtain ⟨hw, fa, hx, hZ, hown, hc, hml, hret, hnm, hR, hn0, htop, hsz⟩ := ok
    obtain ⟨k1, k4, k5, k6, k7, k9, k10⟩ := lk
    obtain ⟨z4, z5⟩ := sm
    obtain ⟨t1, t2, t3⟩ := htop htM
    have Ic := I.2.2.2.2.2.1
    have Is := I.2.2.2.2.2.2.1
    have b1 : cells + (mR M').cells ≤ R.cells := by have := Nat.le_of_ble_eq_true hR1; rw [hR]; omega
    have b2 : slots + (mR M').slots ≤ R.slots := by have := Nat.le_of_ble_eq_true hR2; rw [hR]; omega
    have C := cl l Z a0 [] 0 (b + (cK P.2 + 1) * i) n0 T.heap hw fa (Nat.le_trans hn0 (Nat.le_add_right _ _)) (rep_obj I.2.1 ho) (by rw [k7]; exact Nat.le_refl _) (fun _ => ⟨by rw [I.2.2.2.2.1]; have := hq.1; omega, hq.2.1, hq.2.2⟩)
    have Bk := backOf (Q := CQ P.2 Z 0 (b + (cK P.2 + 1) * i) n0 T.heap (mN M') (none, [(k, s)]) (none, (none, [(k2, s2)]))) (R := R) (p := p) (e := e) (below := below) (s := s1) (args := args) (len := 3) (W := (rest.map fun v => v.category).sum) C hZ (hw _ k5) (by rw [k6]; exact fa.2.1) (by rw [hR]; exact Nat.le_of_ble_eq_true z4) (by rw [hR]; exact Nat.le_of_ble_eq_true z5)
    have hy : (mY M').cls ≠ "java/lang/invoke/MethodHandle" ∧ (mY M').cls ≠ "java/lang/invoke/VarHandle" := by rw [k6]; exact fa.2.2.2.2.2.2
    have hcd := hw _ k5
    rw [k9] at hcd
    obtain ⟨v, vm1, ⟨T2, Lx, kx, nx⟩, -, X2, ⟨L2, hQ, l2, y2, n2⟩, stp⟩ := I.1.specialBack hx (y := mY M') k10 hown (mvT hZ (hw _ k1)) (mvT hZ (hw _ k4)) (mvT hZ hcd) hy Bk (g := mkF m pc (cL α b L) (cV α b st)) rfl (by show (cL α b L).size = c.maxLocals; rw [cL_size, hl, hml]) (Steps.refl _) (a := b + (cK P.2 + 1) * i) (argsL := as) (rest := cV α b rest) (lenOf pd hn) (cV_call hnr hst)
      (by show 2 * 0 + _ ≤ _; rw [cV_sum]; exact Nat.le_of_eq (Nat.zero_add _)) (hb hc d) (fun _ _ => ⟨by rw [show (cV 0 (b + (cK P.2 + 1) * i) (.ref 1 :: as)) = .ref (b + (cK P.2 + 1) * i) :: cV 0 (b + (cK P.2 + 1) * i) as from rfl, cV_nr hnr], rfl, b1, b2⟩)
    dsimp only [Pt.U, Pt.locs, Pt.cells, Pt.slots] at X2 l2 y2 n2 stp hQ
    subst l2 y2 n2
    obtain ⟨rfl, N2, R2, F2, k8⟩ := hQ
    rw [k7] at F2
    exact ⟨T2, _, _, _, inv_obj I ho X2 N2 R2 F2 k8 hC hS b1 b2, fun target r => stp.trans r⟩) g
/-- Object's constructor -/
theorem go_objinit {a : Nat} (k1 : Jvm.Cond.methodLink (mY M).cls idx Lib.objectInit ∈ P.1) (k2 : Jvm.Cond.instanceMethod Lib.objectInit ∈ P.1) (k3 : Jvm.Cond.code Lib.objectInit ⟨#[0xb1]⟩ 1 none ∈ P.1) (z4 : Nat.ble 1 (mR M).frames = true) (z5 : Nat.ble ((rest.map fun v => v.category).sum + 12) (mR M).locals = true)
    (d : decode (mB M) pc = .ok (.invokespecial idx, 3)) (g : Go P M (pc + 3) L rest w out) : Go P M pc L (.ref (a + 1) :: rest) w out :=
  go_ch (fun l Z a0 p e R s1 m args below meth c α b n0 h0 uC uS ok hl T locs cells slots I => by
    obtain ⟨hw, fa, hx, hZ, hown, hc, hml, hret, hnm, hR, hn0, htop, hsz⟩ := ok
    obtain ⟨X, Rp, Fm, Nl, hs, u1, u2, c1, c2, hN⟩ := I
    obtain ⟨T', X', e', stp⟩ := initO X hx hZ hown (hw _ k1) (hw _ k2) (hw _ k3) rfl (g := mkF m pc (cL α b L) (cV α b (.ref (a + 1) :: rest))) rfl (by show (cL α b L).size = c.maxLocals; rw [cL_size, hl, hml]) (a := b + a) (rest := cV α b rest) rfl (hb hc d) (by rw [hR]; exact Nat.le_of_ble_eq_true z4) (W := (rest.map fun v => v.category).sum) (by show 2 * 0 + _ ≤ _; rw [cV_sum]; exact Nat.le_of_eq (Nat.zero_add _)) (by rw [hR]; exact Nat.le_of_ble_eq_true z5)
    exact ⟨T', locs, cells, slots, ⟨X', by rw [e']; exact Rp, by rw [e']; exact Fm, Nl, by rw [e']; exact hs, u1, u2, c1, c2, hN⟩, fun target r => stp target r⟩) g
/-- a new object of the class -/
theorem go_new {n : Nat} (k1 : Jvm.Cond.classLink (mY M).cls idx (cN P.2) ∈ P.1) (htM : mTop M = true) (hn : w.2.length = n) (hq : usedC w = (cK P.2 + 1) * n) (hw' : w' = (w.1, w.2 ++ [(0, s0)])) (hN' : Nat.blt n (mN M) = true) (hR1 : Nat.ble (usedC w + 1) ((mR M).cells + mUC M) = true) (hR2 : Nat.ble (usedS P.2 w + cF P.2) ((mR M).slots + mUS M) = true)
    (d : decode (mB M) pc = .ok (.new idx, 3)) (hid : id = (cK P.2 + 1) * n + 1) (g : Go P M (pc + 3) L (.ref id :: st) w' out) : Go P M pc L st w out :=
  go_ch (fun l Z a0 p e R s1 m args below meth c α b n0 h0 uC uS ok hl T locs cells slots I => by
    subst hw' hid
    obtain ⟨hw, fa, hx, hZ, hown, hc, hml, hret, hnm, hR, hn0, htop, hsz⟩ := ok
    obtain ⟨X, Rp, Fm, Nl, hs, u1, u2, c1, c2, hN⟩ := I
    obtain ⟨t1, t2, t3⟩ := htop htM
    have b1 : cells + 1 ≤ R.cells := by have := Nat.le_of_ble_eq_true hR1; rw [hR]; omega
    have b2 : slots + cF P.2 ≤ R.slots := by have := Nat.le_of_ble_eq_true hR2; rw [hR]; omega
    obtain ⟨T2, h2, X2, e2, E2, A2, D2, -, st2⟩ := newO X hx hZ hown (hw _ k1) fa.1 fa.2.1 rfl (g := mkF m pc (cL α b L) (cV α b st)) rfl (hb hc d) b1 b2
    have ha : T.heap.size = b + (cK P.2 + 1) * n := by rw [hs, t1]; omega
    rw [ha] at A2 D2 st2
    have sz2 : T2.heap.size = T.heap.size + 1 := by
      have q1 := X2.heapSize
      have q2 : b + (cK P.2 + 1) * n < h2.size := A2.lt
      rw [e2] at q1 ⊢
      omega
    refine ⟨T2, locs, _, _, ⟨X2, ?_, by rw [e2]; exact Fm.ext E2, Nl, by rw [sz2, hs]; omega, ?_, ?_, b1, b2, ?_⟩, fun target r => st2 target ?_⟩
    · rw [e2]
      refine ⟨fun l1 h1 => (Rp.ext E2).1 l1 h1, fun j oj hj => ?_⟩
      by_cases q : j < w.2.length
      · rw [show (w.1, w.2 ++ [(0, s0)]).2 = w.2 ++ [(0, s0)] from rfl, List.getElem?_append_left q] at hj
        exact (Rp.ext E2).2 j oj hj
      · have hj' := get_lt hj
        simp at hj'
        have ej : j = n := by omega
        subst ej
        rw [show (w.1, w.2 ++ [(0, s0)]).2 = w.2 ++ [(0, s0)] from rfl, List.getElem?_append_right (by omega)] at hj
        rw [hn] at hj; simp at hj; subst hj
        refine ⟨A2, fun f x hx => ?_, fun q x hx => ?_, fun q x _ hq => absurd hq (Nat.not_lt_zero _)⟩
        · have := D2 (fa.2.2.1 f x hx).1 (fa.2.2.1 f x hx).2
          rw [fa.2.2.2.2.2.1 f x hx] at this
          exact this
        · have := D2 (fa.2.2.2.1 q x hx).1 (fa.2.2.2.1 q x hx).2
          rw [if_neg (Nat.not_lt_zero _)]
          exact this
    · simp [usedC] at u1 ⊢; omega
    · simp [usedS] at u2 ⊢; omega
    · simp; have : n < mN M := by simpa [Nat.blt_eq] using hN'
      omega
    · exact r) g
/-- a new array, laid into its field at once -/
theorem rep_new {Z : State} {a0 : Array Value} {ci : CI} {h h1 h2 : Heap} {b : Nat} {s s' : S} {k : Nat} {nm ds : String} {ty : FieldType} {cap : Nat} {cl : Cell} (fa : Facts Z a0 ci) (F : Rep1 Z ci h b (k, s)) (hf : (cA ci)[k]? = some (nm, ds, ty, cap)) (E : Ext h h1) (A : Arr Z h1 (b + 1 + k) cl ty) (ec : cl.slots = (arV ty s' k).toArray)
    (Wt : Wr h1 h2 b (Jvm.RoadKit.slotOf Z (cN ci) nm ds) (.ref (b + 1 + k))) (ho : ∀ q' x, (cA ci)[q']? = some x → q' ≠ k → arV x.2.2.1 s' q' = arV x.2.2.1 s q') (ha : gI s' = gI s) (hbb : gL s' = gL s) : Rep1 Z ci h2 b (k + 1, s') := by
  obtain ⟨f1, f2, f3, f4⟩ := F
  obtain ⟨-, -, g1, g2, g3, -⟩ := fa
  have lt := get_lt hf
  refine ⟨(f1.ext E).wr Wt, fun f x hx => ?_, fun q x hx => ?_, fun q x hx hq => ?_⟩
  · have e : scV x.2.2 s' f = scV x.2.2 s f := by unfold scV; split <;> simp [ha, hbb]
    have lt' := get_lt hx
    show Fld Z h2 b (cN ci) x.1 x.2.1 (scV x.2.2 s' f)
    rw [e]
    refine ((f2 f x hx).ext E).other Wt (Or.inr ?_)
    refine slot_ne (g1 f x hx).1 (g2 k _ hf).1 ?_ (g1 f x hx).2 (g2 k _ hf).2
    intro en
    have n1 : ((cS ci).map (fun x => x.1) ++ (cA ci).map (fun x => x.1))[f]? = some x.1 := by rw [List.getElem?_append_left (by simpa using lt')]; simp [hx]
    have n2 : ((cS ci).map (fun x => x.1) ++ (cA ci).map (fun x => x.1))[(cS ci).length + k]? = some nm := by rw [List.getElem?_append_right (by simp)]; simp [hf]
    rw [en] at n1
    obtain ⟨i1, j1⟩ := List.getElem?_eq_some_iff.mp n1
    obtain ⟨i2, j2⟩ := List.getElem?_eq_some_iff.mp n2
    have := (List.getElem_inj g3).mp (j1.trans j2.symm)
    omega
  · by_cases e : q = k
    · subst e
      cases hf.symm.trans hx
      rw [if_pos (show q < (q + 1, s').1 from Nat.lt_succ_self q)]
      exact ((f3 q _ hf).ext E).same Wt
    · have lt' := get_lt hx
      have e2 : (if q < (k + 1, s').1 then Value.ref (b + 1 + q) else Value.null) = (if q < (k, s).1 then Value.ref (b + 1 + q) else Value.null) := by
        show (if q < k + 1 then _ else _) = (if q < k then _ else _)
        by_cases q1 : q < k
        · rw [if_pos q1, if_pos (by omega)]
        · rw [if_neg q1, if_neg (by omega)]
      rw [e2]
      refine ((f3 q x hx).ext E).other Wt (Or.inr ?_)
      refine slot_ne (g2 q x hx).1 (g2 k _ hf).1 ?_ (g2 q x hx).2 (g2 k _ hf).2
      intro en
      have n1 : ((cS ci).map (fun x => x.1) ++ (cA ci).map (fun x => x.1))[(cS ci).length + q]? = some x.1 := by rw [List.getElem?_append_right (by simp)]; simp [hx]
      have n2 : ((cS ci).map (fun x => x.1) ++ (cA ci).map (fun x => x.1))[(cS ci).length + k]? = some nm := by rw [List.getElem?_append_right (by simp)]; simp [hf]
      rw [en] at n1
      obtain ⟨i1, j1⟩ := List.getElem?_eq_some_iff.mp n1
      obtain ⟨i2, j2⟩ := List.getElem?_eq_some_iff.mp n2
      have := (List.getElem_inj g3).mp (j1.trans j2.symm)
      omega
  · by_cases e : q = k
    · subst e
      cases hf.symm.trans hx
      exact ⟨cl, A.other Wt (nq (by omega)), ec⟩
    · obtain ⟨c, B, eb⟩ := f4 q x hx (by have : q < k + 1 := hq; show q < k; omega)
      refine ⟨c, (B.ext E).other Wt (nq (by omega)), eb.trans ?_⟩
      rw [ho q x hx e]
theorem go_newV {aty : ArrayType} {ty : FieldType} {nm ds : String} {cap : Nat} {n : Int32} {s' : S} (hty : newarray.typeOf aty = ty) (ha : (cA P.2)[k]? = some (nm, ds, ty, cap)) (k0 : Jvm.Cond.arrayClass ty ∈ P.1) (k1 : Jvm.Cond.fieldLink (cN P.2) idx (cN P.2) nm ds ∈ P.1) (hM : (mY M).cls = cN P.2)
    (hlays : Jvm.Cond.lays (cN P.2) (cN P.2) nm ds ∈ P.1 ∨ (Jvm.Cond.laysFinal (cN P.2) (cN P.2) nm ds ∈ P.1 ∧ (mY M).name = "<init>")) (htM : mTop M = true) (hp : 0 < mN M) (hn : ¬ n < 0) (hcap : Nat.ble n.toNatClampNeg cap = true) (hbig : Nat.ble (cap * 8) 536870912 = true)
    (hR1 : Nat.ble (1 + k + 1) ((mR M).cells + mUC M) = true) (hR2 : Nat.ble (usedS P.2 (none, [(k, s)]) + cap) ((mR M).slots + mUS M) = true)
    (hv : arV ty s' k = List.replicate n.toNatClampNeg (defaultValue ty)) (hoth : ∀ q' x, (cA P.2)[q']? = some x → q' ≠ k → arV x.2.2.1 s' q' = arV x.2.2.1 s q') (hgI : gI s' = gI s) (hgL : gL s' = gL s)
    (d : decode (mB M) pc = .ok (.newarray aty, 2)) (d2 : decode (mB M) (pc + 2) = .ok (.putfield idx, 3)) (g : Go P M (pc + 5) L st (none, [(k + 1, s')]) out) : Go P M pc L (.int n :: .ref 1 :: st) (none, [(k, s)]) out :=
  go_ch (fun l Z a0 p e R s1 m args below meth c α b n0 h0 uC uS ok hl T locs cells slots I => by
    obtain ⟨hw, fa, hx, hZ, hown, hc, hml, hret, hnm, hR, hn0, htop, hsz⟩ := ok
    obtain ⟨X, Rp, Fm, Nl, hs, u1, u2, c1, c2, hN⟩ := I
    obtain ⟨t1, t2, t3⟩ := htop htM
    have u1' : cells + uC = 1 + k := by simpa [usedC] using u1
    have b1 : cells + 1 ≤ R.cells := by have := Nat.le_of_ble_eq_true hR1; rw [hR]; omega
    have b2 : slots + cap ≤ R.slots := by have := Nat.le_of_ble_eq_true hR2; rw [hR]; omega
    subst hty
    obtain ⟨T2, h2, cA2, X2, e2, E2, A2, st2⟩ := newP X hx hZ (hw _ k0) rfl (g := mkF m pc (cL α b L) (.int n :: .ref b :: cV α b st)) rfl (hb hc d) rfl hn (Nat.le_of_ble_eq_true hcap) (Nat.le_of_ble_eq_true hbig) b1 b2
    have hadr : T.heap.size = b + 1 + k := by rw [hs, t1]; omega
    rw [hadr] at A2 st2
    have sz2 : T2.heap.size = T.heap.size + 1 := by
      have q1 := X2.heapSize
      have q2 : b + 1 + k < h2.size := A2.lt
      rw [e2] at q1 ⊢
      omega
    have Rp1 := rep_one Rp
    have Fd := Rp1.2.2.1 k _ ha
    rw [if_neg (show ¬ k < (k, s).1 from Nat.lt_irrefl k)] at Fd
    rw [hM] at hown
    obtain ⟨T3, h3, X3, e3, Wt, st3⟩ := putF X2 hx hZ hown (host := "") (Or.inl (hw _ k1)) Via.refl e2 (Fd.ext E2) (Rp1.1.ext E2) (hlays.imp (fun q => hw _ q) (fun q => ⟨hw _ q.1, rfl, hnm.trans q.2⟩)) fa.1 (fa.2.2.2.1 k _ ha).2 (v := .ref (b + 1 + k)) rfl rfl (g := mkF m (pc + 2) (cL α b L) (.ref (b + 1 + k) :: .ref b :: cV α b st)) rfl rfl (hb hc d2)
    refine ⟨T3, _, _, _, ⟨X3, rep_mk (by rw [e3]; exact rep_new fa Rp1 ha E2 A2 (by rw [hv]; simp [newA]) Wt hoth hgI hgL), by rw [e3]; exact (Fm.ext E2).wr Wt (Nat.le_refl _) (by have := Nat.mul_le_mul_left (cK P.2 + 1) hp; omega), Fr.snoc X3 Nl hn0, by rw [e3, Wt.size, ← e2, sz2, hs]; omega, by simp [usedC]; omega, ?_, b1, b2, hN⟩, fun target r => st2 target (st3 target r)⟩
    have hk := get_lt ha
    simp only [usedS, List.map_cons, List.map_nil, List.sum_cons, List.sum_nil] at u2 ⊢
    rw [List.take_add_one, List.map_append, List.sum_append, ha]
    simp [List.map_take] at u2 ⊢; omega) g
theorem go_newI {aty : ArrayType} {ty : FieldType} {nm ds : String} {cap : Nat} {n : Int32} (hty : newarray.typeOf aty = ty) (hi : ty = .int ∨ ty = .boolean ∨ ty = .byte) (ha : (cA P.2)[k]? = some (nm, ds, ty, cap)) (k0 : Jvm.Cond.arrayClass ty ∈ P.1) (k1 : Jvm.Cond.fieldLink (cN P.2) idx (cN P.2) nm ds ∈ P.1) (hM : (mY M).cls = cN P.2)
    (hlays : Jvm.Cond.lays (cN P.2) (cN P.2) nm ds ∈ P.1 ∨ (Jvm.Cond.laysFinal (cN P.2) (cN P.2) nm ds ∈ P.1 ∧ (mY M).name = "<init>")) (htM : mTop M = true) (hp : 0 < mN M) (hn : ¬ n < 0) (hcap : Nat.ble n.toNatClampNeg cap = true) (hbig : Nat.ble (cap * 8) 536870912 = true)
    (hR1 : Nat.ble (1 + k + 1) ((mR M).cells + mUC M) = true) (hR2 : Nat.ble (usedS P.2 (none, [(k, s)]) + cap) ((mR M).slots + mUS M) = true)
    (d : decode (mB M) pc = .ok (.newarray aty, 2)) (d2 : decode (mB M) (pc + 2) = .ok (.putfield idx, 3)) (g : Go P M (pc + 5) L st (none, [(k + 1, sA s k (rep n.toNatClampNeg 0))]) out) : Go P M pc L (.int n :: .ref 1 :: st) (none, [(k, s)]) out :=
  go_newV hty ha k0 k1 hM hlays htM hp hn hcap hbig hR1 hR2 (by rcases hi with rfl | rfl | rfl <;> simp [arV, gA_sA, defaultValue, rep]) (fun q' x _ h => arV_sA s k _ _ q' h) rfl rfl d d2 g
theorem go_newJ {nm ds : String} {cap : Nat} {n : Int32} (ha : (cA P.2)[k]? = some (nm, ds, .long, cap)) (k0 : Jvm.Cond.arrayClass .long ∈ P.1) (k1 : Jvm.Cond.fieldLink (cN P.2) idx (cN P.2) nm ds ∈ P.1) (hM : (mY M).cls = cN P.2)
    (hlays : Jvm.Cond.lays (cN P.2) (cN P.2) nm ds ∈ P.1 ∨ (Jvm.Cond.laysFinal (cN P.2) (cN P.2) nm ds ∈ P.1 ∧ (mY M).name = "<init>")) (htM : mTop M = true) (hp : 0 < mN M) (hn : ¬ n < 0) (hcap : Nat.ble n.toNatClampNeg cap = true) (hbig : Nat.ble (cap * 8) 536870912 = true)
    (hR1 : Nat.ble (1 + k + 1) ((mR M).cells + mUC M) = true) (hR2 : Nat.ble (usedS P.2 (none, [(k, s)]) + cap) ((mR M).slots + mUS M) = true)
    (d : decode (mB M) pc = .ok (.newarray .long, 2)) (d2 : decode (mB M) (pc + 2) = .ok (.putfield idx, 3)) (g : Go P M (pc + 5) L st (none, [(k + 1, sB s k (rep n.toNatClampNeg 0))]) out) : Go P M pc L (.int n :: .ref 1 :: st) (none, [(k, s)]) out :=
  go_newV (aty := .long) (ty := .long) rfl ha k0 k1 hM hlays htM hp hn hcap hbig hR1 hR2 (by simp [arV, gB_sB, defaultValue, rep]) (fun q' x _ h => arV_sB s k _ _ q' h) rfl rfl d d2 g
end Rules
/-! ## the start -/
theorem tsw_out {x : Int32} {lo hi : Int} (h1 : -2147483648 ≤ lo) (h2 : hi < 2147483648) (ks : List Int32) (hk : ks = ((List.range (hi - lo + 1).toNat).map fun (j : Nat) => Int32.ofInt (lo + (j : Int)))) (hx : ∀ k ∈ ks, x ≠ k) : x.toInt < lo ∨ x.toInt > hi := by
  by_cases q1 : x.toInt < lo
  · exact Or.inl q1
  by_cases q2 : x.toInt > hi
  · exact Or.inr q2
  refine absurd rfl (hx x ?_)
  rw [hk, List.mem_map]
  refine ⟨(x.toInt - lo).toNat, List.mem_range.mpr (by omega), ?_⟩
  rw [show lo + (((x.toInt - lo).toNat : Nat) : Int) = x.toInt by omega]
  exact Int32.ofInt_toInt x
theorem list_of_array {V : Type} (a : Array V) (f : Nat → V) (h : ∀ j, j < a.size → a[j]? = some (f j)) : a = ((List.range a.size).map f).toArray := by
  apply Array.ext'
  apply List.ext_getElem?
  intro j
  by_cases q : j < a.size
  · simpa [q] using h j q
  · simp [q]
theorem small_len {n : Nat} {k : Int32} (h : n < 2 ^ 31) (q : n.toInt32 ≤ k) : (n : Int) ≤ k.toInt := by
  have e : (Int32.ofNat n).toInt = n := Int32.toInt_ofNat_of_lt h
  have := Int32.le_iff_toInt_le.mp q
  rwa [show n.toInt32.toInt = n from e] at this
theorem script_of {s : State} {args : Array Value} {t : Term} {k : Int32} (hf : Fit s) (h1 : (Cond.arrayOf t .int).value args s none s [] = some true) (h2 : (Cond.le (.length t) (.int k)).value args s none s [] = some true) :
    ∃ (a : Nat) (l : List Int32), t.eval args s none [] s = some (.ref a) ∧ Ar s s.heap a .int (l.map .int) ∧ a < s.heap.size ∧ (l.length : Int) ≤ k.toInt := by
  obtain ⟨a, ev⟩ := arr_v h1
  obtain ⟨c, A⟩ := Arr.start ev h1
  obtain ⟨x, y, ex, ey, -, -⟩ := cmp_v (Or.inr (Or.inr h2))
  obtain ⟨b, cell, e1, e2, e3, ev2⟩ := Jvm.Lib.length_spec ex
  have ea : b = a := by rw [ev] at e1; cases e1; rfl
  have ec : cell = c := by
    have := Arr.fin (Vm.Alike.refl _) A
    rw [ea, this] at e2; cases e2; rfl
  subst ea ec ev2
  obtain ⟨n, en, S⟩ := Scr.start hf A e3
  have hle : cell.slots.size.toInt32 ≤ k := by
    have ek : (Term.int k).eval args s none [] s = some (.int k) := rfl
    simp only [Cond.value, ex, ek] at h2
    simpa using h2
  refine ⟨b, (List.range cell.slots.size).map fun j => atv cell (Int32.ofNat j), ev, ⟨cell, A, ?_⟩, A.lt, ?_⟩
  · rw [List.map_map]
    refine list_of_array cell.slots _ fun j hj => ?_
    have e4 : (Int32.ofNat j).toNatClampNeg = j := by
      have : (Int32.ofNat j).toInt = j := Int32.toInt_ofNat_of_lt (by omega)
      simp [Int32.toNatClampNeg, this]
    have e5 : ¬ (Int32.ofNat j < 0) := by
      rw [Int32.lt_iff_toInt_lt, Int32.toInt_ofNat_of_lt (by omega)]; simp
    have := S.2.2.2 (Int32.ofNat j) (by rw [e4]; rintro (q | q); exact e5 q; omega)
    rw [e4] at this
    exact this
  · simpa using small_len e3 hle
theorem repW_none (Z : State) (ci : CI) (α b : Nat) (h : Heap) : RepW Z ci α b (none, []) h := ⟨fun l hl => (by cases hl), fun i o ho => (by simp at ho)⟩
theorem repW_some {Z : State} {ci : CI} {α b : Nat} {h : Heap} {l : List Int32} (A : Ar Z h α .int (l.map .int)) (q : α < b) : RepW Z ci α b (some l, []) h := ⟨fun l' hl => by cases hl; exact ⟨A, q⟩, fun i o ho => by simp at ho⟩
end Jvm.AM
/-! ## plain lemmas on ints, arrays and updates -/
namespace Jvm.PL
open Jvm.AM
theorem ofNat_toInt {k : Nat} (h : k < 2147483648) : (Int32.ofNat k).toInt = k := Int32.toInt_ofNat_of_lt h
theorem ofNat_lt {k m : Nat} (hk : k < 2147483648) (hm : m < 2147483648) : Int32.ofNat k < Int32.ofNat m ↔ k < m := by
  rw [Int32.lt_iff_toInt_lt, ofNat_toInt hk, ofNat_toInt hm]; omega
theorem lt_lit {k m : Nat} (hk : k < 2147483648) (hm : m < 2147483648 := by decide) : Int32.ofNat k < (OfNat.ofNat m : Int32) ↔ k < m := ofNat_lt hk hm
theorem ofNat_succ (k : Nat) : Int32.ofNat k + 1 = Int32.ofNat (k + 1) := by
  rw [Int32.ofNat_add]; rfl
theorem ofNat_nonneg {k : Nat} (hk : k < 2147483648) : ¬ Int32.ofNat k < 0 := by rw [Int32.lt_iff_toInt_lt, ofNat_toInt hk]; simp
theorem ofNat_clamp {k : Nat} (hk : k < 2147483648) : (Int32.ofNat k).toNatClampNeg = k := by simp [Int32.toNatClampNeg, ofNat_toInt hk]
theorem ix_ofNat {A : Type} (l : List A) {k : Nat} (hk : k < 2147483648) : ix l (Int32.ofNat k) = l[k]? := by
  unfold ix; rw [if_neg (ofNat_nonneg hk), ofNat_clamp hk]
theorem st_ofNat {A : Type} (l : List A) (x : A) {k : Nat} (hk : k < 2147483648) (hl : k < l.length) : Jvm.AM.st l (Int32.ofNat k) x = some (l.set k x) := by
  unfold Jvm.AM.st; rw [if_neg (ofNat_nonneg hk), ofNat_clamp hk, if_pos hl]
theorem toInt_clamp {v : Int32} (h : ¬ v < 0) : (v.toNatClampNeg : Int) = v.toInt := by
  rw [Int32.lt_iff_toInt_lt] at h
  simp only [Int32.toNatClampNeg]
  have : (0 : Int32).toInt = 0 := rfl
  omega
theorem eq_ofNat {v : Int32} (h : ¬ v < 0) : v = Int32.ofNat v.toNatClampNeg ∧ v.toNatClampNeg < 2147483648 := by
  have h1 := toInt_clamp h
  have h2 := v.toInt_lt
  have h3 : v.toNatClampNeg < 2147483648 := by omega
  refine ⟨Int32.toInt_inj.mp ?_, h3⟩
  rw [ofNat_toInt h3]; exact h1.symm
theorem ix_rep {A : Type} {v : Int32} {n : Nat} {x : A} (h0 : ¬ v < 0) (h1 : v < Int32.ofNat n) (hn : n < 2147483648) : ix (rep n x) v = some x := by
  obtain ⟨e, hl⟩ := eq_ofNat h0
  rw [e] at h1 ⊢
  have h2 := (ofNat_lt hl hn).mp h1
  rw [ix_ofNat _ hl, rep_get, if_pos h2]
theorem ix_nat {A : Type} (l : List A) {v : Int32} (h0 : ¬ v < 0) : ix l v = l[v.toNatClampNeg]? := by unfold ix; rw [if_neg h0]
theorem st_nat {A : Type} (l : List A) {v : Int32} {x : A} (h0 : ¬ v < 0) (hl : v.toNatClampNeg < l.length) : Jvm.AM.st l v x = some (l.set v.toNatClampNeg x) := by
  unfold Jvm.AM.st; rw [if_neg h0, if_pos hl]
theorem clamp_lt {v : Int32} {n : Nat} (h0 : ¬ v < 0) (h1 : v < Int32.ofNat n) (hn : n < 2147483648) : v.toNatClampNeg < n := by
  obtain ⟨e, hl⟩ := eq_ofNat h0
  rw [e] at h1
  exact (ofNat_lt hl hn).mp h1
theorem clamp_inj {v w : Int32} (h0 : ¬ v < 0) (h1 : ¬ w < 0) : v.toNatClampNeg = w.toNatClampNeg ↔ v = w := by
  constructor
  · intro h
    have a := toInt_clamp h0
    have b := toInt_clamp h1
    exact Int32.toInt_inj.mp (by omega)
  · intro h; rw [h]
end Jvm.PL
namespace Jvm.PL
open Jvm.AM
/-- all but the named fields and arrays is as it was -/
def Fx (I L A B : List Nat) (s s' : S) : Prop := (∀ f, f ∉ I → gI s' f = gI s f) ∧ (∀ f, f ∉ L → gL s' f = gL s f) ∧ (∀ f, f ∉ A → gA s' f = gA s f) ∧ (∀ f, f ∉ B → gB s' f = gB s f)
theorem Fx.refl (I L A B : List Nat) (s : S) : Fx I L A B s s := ⟨fun _ _ => rfl, fun _ _ => rfl, fun _ _ => rfl, fun _ _ => rfl⟩
theorem Fx.trans {I L A B : List Nat} {s t u : S} (h : Fx I L A B s t) (k : Fx I L A B t u) : Fx I L A B s u :=
  ⟨fun f q => (k.1 f q).trans (h.1 f q), fun f q => (k.2.1 f q).trans (h.2.1 f q), fun f q => (k.2.2.1 f q).trans (h.2.2.1 f q), fun f q => (k.2.2.2 f q).trans (h.2.2.2 f q)⟩
theorem Fx.mono {I L A B I' L' A' B' : List Nat} {s t : S} (h : Fx I L A B s t) (a : ∀ f ∈ I, f ∈ I') (b : ∀ f ∈ L, f ∈ L') (c : ∀ f ∈ A, f ∈ A') (d : ∀ f ∈ B, f ∈ B') : Fx I' L' A' B' s t :=
  ⟨fun f q => h.1 f fun x => q (a f x), fun f q => h.2.1 f fun x => q (b f x), fun f q => h.2.2.1 f fun x => q (c f x), fun f q => h.2.2.2 f fun x => q (d f x)⟩
theorem Fx.sA {I L A B : List Nat} {s t : S} {f : Nat} {l : List Int32} (h : Fx I L A B s t) (hf : f ∈ A) : Fx I L A B s (Jvm.AM.sA t f l) :=
  ⟨fun g q => (gI_sA _ _ _ _).trans (h.1 g q), fun g q => (gL_sA _ _ _ _).trans (h.2.1 g q), fun g q => by rw [gA_sA, if_neg (fun e : g = f => q (e ▸ hf))]; exact h.2.2.1 g q, fun g q => (gB_sA _ _ _ _).trans (h.2.2.2 g q)⟩
theorem Fx.sI {I L A B : List Nat} {s t : S} {f : Nat} {l : Int32} (h : Fx I L A B s t) (hf : f ∈ I) : Fx I L A B s (Jvm.AM.sI t f l) :=
  ⟨fun g q => by rw [gI_sI, if_neg (fun e : g = f => q (e ▸ hf))]; exact h.1 g q, fun g q => (gL_sI _ _ _ _).trans (h.2.1 g q), fun g q => (gA_sI _ _ _ _).trans (h.2.2.1 g q), fun g q => (gB_sI _ _ _ _).trans (h.2.2.2 g q)⟩
theorem Fx.sL {I L A B : List Nat} {s t : S} {f : Nat} {l : Int64} (h : Fx I L A B s t) (hf : f ∈ L) : Fx I L A B s (Jvm.AM.sL t f l) :=
  ⟨fun g q => (gI_sL _ _ _ _).trans (h.1 g q), fun g q => by rw [gL_sL, if_neg (fun e : g = f => q (e ▸ hf))]; exact h.2.1 g q, fun g q => (gA_sL _ _ _ _).trans (h.2.2.1 g q), fun g q => (gB_sL _ _ _ _).trans (h.2.2.2 g q)⟩
theorem Fx.sB {I L A B : List Nat} {s t : S} {f : Nat} {l : List Int64} (h : Fx I L A B s t) (hf : f ∈ B) : Fx I L A B s (Jvm.AM.sB t f l) :=
  ⟨fun g q => (gI_sB _ _ _ _).trans (h.1 g q), fun g q => (gL_sB _ _ _ _).trans (h.2.1 g q), fun g q => (gA_sB _ _ _ _).trans (h.2.2.1 g q), fun g q => by rw [gB_sB, if_neg (fun e : g = f => q (e ▸ hf))]; exact h.2.2.2 g q⟩
theorem ofNat_add' (a b : Nat) : Int32.ofNat a + Int32.ofNat b = Int32.ofNat (a + b) := (Int32.ofNat_add a b).symm
/-- the first k entries are x -/
def Upto {A : Type} (l : List A) (k : Nat) (x : A) : Prop := ∀ i, i < k → l[i]? = some x
theorem Upto.zero {A : Type} (l : List A) (x : A) : Upto l 0 x := fun _ h => absurd h (Nat.not_lt_zero _)
theorem Upto.set {A : Type} {l : List A} {k : Nat} {x : A} (h : Upto l k x) (hk : k < l.length) : Upto (l.set k x) (k + 1) x := fun i hi => by
  by_cases e : i = k
  · subst e; simp [hk]
  · rw [List.getElem?_set_ne (Ne.symm e)]; exact h i (by omega)
theorem Upto.all {A : Type} {l : List A} {k : Nat} {x : A} (h : Upto l k x) (hk : l.length = k) : l = rep k x := by
  apply List.ext_getElem?
  intro i
  rw [rep_get]
  by_cases q : i < k
  · rw [if_pos q]; exact h i q
  · rw [if_neg q, List.getElem?_eq_none (by omega)]
end Jvm.PL
namespace Jvm.PL
open Jvm.AM
/-- a loop by its invariant; m: the turns that are left -/
theorem run_loop {A B : Type} (L : Nat → A → B) (F : A → B) (I : Nat → A → Prop) (h : ∀ n m a, I (m + 1) a → ∃ a', L (n + 1) a = L n a' ∧ I m a') (h0 : ∀ n a, I 0 a → L (n + 1) a = F a) : ∀ m n a, m < n → I m a → ∃ a', L n a = F a' ∧ I 0 a'
  | 0, n + 1, a, _, i => ⟨a, h0 n a i, i⟩
  | m + 1, n + 1, a, q, i => by
    obtain ⟨a', e, i'⟩ := h n m a i
    obtain ⟨a'', e', i''⟩ := run_loop L F I h h0 m n a' (by omega) i'
    exact ⟨a'', e.trans e', i''⟩
/-- 'for k in 0 .. N' -/
theorem run_for {B : Type} (L : Nat → Int32 → S → B) (F : S → B) (N : Nat) (I : Nat → S → Prop) (h : ∀ n k s, k < N → I k s → ∃ s', L (n + 1) (Int32.ofNat k) s = L n (Int32.ofNat (k + 1)) s' ∧ I (k + 1) s') (h0 : ∀ n s, I N s → L (n + 1) (Int32.ofNat N) s = F s) (n : Nat) (s : S) (hn : N < n) (i : I 0 s) :
    ∃ s', L n (Int32.ofNat 0) s = F s' ∧ I N s' := by
  obtain ⟨a, e, k, hk, ea, ia⟩ := run_loop (fun n (a : Int32 × S) => L n a.1 a.2) (fun a => F a.2) (fun m a => ∃ k, k + m = N ∧ a.1 = Int32.ofNat k ∧ I k a.2)
    (fun n m a ⟨k, h1, h2, h3⟩ => by
      obtain ⟨s', e, i'⟩ := h n k a.2 (by omega) h3
      exact ⟨(Int32.ofNat (k + 1), s'), by show L (n + 1) a.1 a.2 = _; rw [h2]; exact e, k + 1, by omega, rfl, i'⟩)
    (fun n a ⟨k, h1, h2, h3⟩ => by
      have : k = N := by omega
      subst this
      show L (n + 1) a.1 a.2 = _; rw [h2]; exact h0 n a.2 h3) N n (Int32.ofNat 0, s) hn ⟨0, by omega, rfl, i⟩
  have : k = N := by omega
  subst this
  exact ⟨a.2, e, ia⟩
end Jvm.PL
namespace Jvm.PL
open Jvm.AM
/-- the end test of a loop over a script -/
theorem len_lt {n k c : Nat} (hn : n ≤ 100000) (hk : k ≤ 100000) (hc : c ≤ 100000) : (n.toInt32 - Int32.ofNat c) < Int32.ofNat k ↔ n < k + c := by
  rw [Int32.lt_iff_toInt_lt, Int32.toInt_sub, show n.toInt32 = Int32.ofNat n from rfl, ofNat_toInt (by omega), ofNat_toInt (by omega), ofNat_toInt (by omega)]
  have : ((n : Int) - c).bmod (2 ^ 32) = n - c := by
    rw [Int.bmod_eq_of_le] <;> omega
  rw [this]; omega
/-- a loop over a script, c entries a turn: it ends in what every way out says -/
theorem run_script {A B : Type} (L : Nat → Int32 → A → B) (c len : Nat) (hc : 0 < c) (P : B → Prop) (I : Nat → A → Prop) (h : ∀ n k a, k + c ≤ len → I k a → P (L (n + 1) (Int32.ofNat k) a) ∨ ∃ a', L (n + 1) (Int32.ofNat k) a = L n (Int32.ofNat (k + c)) a' ∧ I (k + c) a') (h0 : ∀ n k a, k ≤ len → len < k + c → I k a → P (L (n + 1) (Int32.ofNat k) a)) : ∀ n k a, len < n + k → k ≤ len → I k a → P (L n (Int32.ofNat k) a)
  | 0, k, a, hn, hk, i => by omega
  | n + 1, k, a, hn, hk, i => by
    by_cases q : k + c ≤ len
    · rcases h n k a q i with p | ⟨a', e, i'⟩
      · exact p
      · rw [e]; exact run_script L c len hc P I h h0 n (k + c) a' (by omega) q i'
    · exact h0 n k a hk (by omega) i
theorem ix_some {A : Type} (l : List A) {k : Nat} (hk : k < 2147483648) (hl : k < l.length) : ∃ x, ix l (Int32.ofNat k) = some x := ⟨l[k], by rw [ix_ofNat _ hk, List.getElem?_eq_getElem hl]⟩
theorem ofNat_lit (a b : Nat) : Int32.ofNat a + (OfNat.ofNat b : Int32) = Int32.ofNat (a + b) := ofNat_add' a b
end Jvm.PL
namespace Jvm.PL
open Jvm.AM
theorem upd_same {A : Type} (g : Nat → A) (f : Nat) (a b : A) : upd (upd g f a) f b = upd g f b := by
  funext x; unfold upd; by_cases q : x = f <;> simp [q]
theorem upd_comm {A : Type} (g : Nat → A) {f h : Nat} (n : f ≠ h) (a b : A) : upd (upd g f a) h b = upd (upd g h b) f a := by
  funext x; unfold upd
  by_cases q : x = f
  · have : ¬ f = h := n
    simp [q, this]
  · by_cases r : x = h
    · rw [if_pos r, if_neg q, if_pos r]
    · rw [if_neg r, if_neg q, if_neg q, if_neg r]
theorem sA_same (s : S) (f : Nat) (a b : List Int32) : Jvm.AM.sA (Jvm.AM.sA s f a) f b = Jvm.AM.sA s f b := by
  unfold Jvm.AM.sA; simp only [upd_same]
theorem sA_comm (s : S) {f h : Nat} (n : f ≠ h) (a b : List Int32) : Jvm.AM.sA (Jvm.AM.sA s f a) h b = Jvm.AM.sA (Jvm.AM.sA s h b) f a := by
  unfold Jvm.AM.sA; simp only; rw [upd_comm _ n]
end Jvm.PL
/-! ## rows of bits -/
namespace Jvm.PL
open Jvm.AM Jvm.Free
def bt (w : Int32) (y : Nat) : Bool := w.toBitVec.getLsbD y
theorem bt_zero (y : Nat) : bt 0 y = false := by simp [bt]
theorem bt_or (a b : Int32) (y : Nat) : bt (a ||| b) y = (bt a y || bt b y) := by simp [bt]
theorem bt_and (a b : Int32) (y : Nat) : bt (a &&& b) y = (bt a y && bt b y) := by simp [bt]
theorem bt_ge (w : Int32) {y : Nat} (h : 32 ≤ y) : bt w y = false := by unfold bt; exact BitVec.getLsbD_of_ge _ _ h
theorem bt_m1 {y : Nat} (h : y < 32) : bt (-1) y = true := by
  unfold bt
  rw [show (-1 : Int32).toBitVec = BitVec.allOnes 32 from rfl, BitVec.getLsbD_allOnes]
  simp [h]
theorem bt_not (a : Int32) {y : Nat} (h : y < 32) : bt (a ^^^ (-1)) y = !bt a y := by
  have := bt_m1 h
  unfold bt at *
  rw [Int32.toBitVec_xor, BitVec.getLsbD_xor, this]; simp
theorem bt_andn (a b : Int32) (y : Nat) : bt (a &&& (b ^^^ (-1))) y = (bt a y && !bt b y) := by
  rw [bt_and]
  by_cases h : y < 32
  · rw [bt_not b h]
  · rw [bt_ge a (by omega)]; simp
theorem bt_ext {a b : Int32} (h : ∀ y, y < 32 → bt a y = bt b y) : a = b := by
  apply Int32.toBitVec_inj.mp
  apply BitVec.eq_of_getLsbD_eq
  intro i hi
  exact h i hi
theorem bt_eq0 {w : Int32} : w = 0 ↔ ∀ y, y < 32 → bt w y = false := by
  constructor
  · rintro rfl y _; exact bt_zero y
  · intro h; exact bt_ext fun y hy => by rw [h y hy, bt_zero]
theorem ushr_bit (w : Int32) {y : Nat} (hy : y < 32) : (XT.ushr w (Int32.ofNat y)).toBitVec = w.toBitVec >>> y := by
  unfold XT.ushr
  have h1 : ((Int32.ofNat y &&& 31).toUInt32.toBitVec).toNat = y := by
    show ((Int32.ofNat y &&& 31).toBitVec).toNat = y
    rw [Int32.toBitVec_and, BitVec.toNat_and]
    have e1 : (Int32.ofNat y).toBitVec.toNat = y := by
      show (BitVec.ofNat 32 y).toNat = y
      rw [BitVec.toNat_ofNat]; omega
    have e2 : (31 : Int32).toBitVec.toNat = 31 := rfl
    rw [e1, e2, show 31 = 2 ^ 5 - 1 from rfl, Nat.and_two_pow_sub_one_eq_mod]; omega
  show (w.toUInt32 >>> (Int32.ofNat y &&& 31).toUInt32).toBitVec = _
  rw [UInt32.toBitVec_shiftRight]
  show w.toBitVec >>> ((Int32.ofNat y &&& 31).toUInt32.toBitVec % 32) = _
  rw [BitVec.ushiftRight_eq']
  congr 1
  rw [BitVec.toNat_umod, h1]
  show y % 32 = y
  omega
theorem and1 (w : Int32) : (w &&& 1 = 0) ↔ bt w 0 = false := by
  constructor
  · intro h
    have : bt (w &&& 1) 0 = false := by rw [h, bt_zero]
    rw [bt_and] at this
    simpa [show bt 1 0 = true from rfl] using this
  · intro h
    refine bt_ext fun y hy => ?_
    rw [bt_and, bt_zero]
    cases y with
    | zero => rw [h]; rfl
    | succ y =>
      have : bt 1 (y + 1) = false := by
        unfold bt
        show (1#32).getLsbD (y + 1) = false
        simp [BitVec.getLsbD_one]
      rw [this]; simp
theorem test_bit (w : Int32) {y : Nat} (hy : y < 32) : (XT.ushr w (Int32.ofNat y) &&& 1 = 0) ↔ bt w y = false := by
  rw [and1]
  unfold bt
  rw [ushr_bit w hy]; simp
theorem shl_bit {b : Nat} (hb : b < 32) (y : Nat) : bt ((1 : Int32) <<< (Int32.ofNat b &&& 31)) y = decide (y = b) := by
  have h1 : (Int32.ofNat b &&& 31) = Int32.ofNat b := by
    apply Int32.toBitVec_inj.mp
    rw [Int32.toBitVec_and]
    apply BitVec.eq_of_toNat_eq
    rw [BitVec.toNat_and]
    have e1 : (Int32.ofNat b).toBitVec.toNat = b := by
      show (BitVec.ofNat 32 b).toNat = b
      rw [BitVec.toNat_ofNat]; omega
    have e2 : (31 : Int32).toBitVec.toNat = 31 := rfl
    rw [e1, e2, show 31 = 2 ^ 5 - 1 from rfl, Nat.and_two_pow_sub_one_eq_mod]; omega
  rw [h1]
  unfold bt
  have e : ((1 : Int32) <<< Int32.ofNat b).toBitVec = (1#32) <<< b := by
    rw [Int32.toBitVec_shiftLeft]
    show (1#32) <<< ((Int32.ofNat b).toBitVec.smod 32) = _
    have : (Int32.ofNat b).toBitVec.smod 32 = BitVec.ofNat 32 b := by
      have hz : ∀ b : Fin 32, (Int32.ofNat b.val).toBitVec.smod 32 = BitVec.ofNat 32 b.val := by decide
      exact hz ⟨b, hb⟩
    rw [this, BitVec.shiftLeft_eq']
    congr 1
    rw [BitVec.toNat_ofNat]; omega
  rw [e]
  simp only [BitVec.getLsbD_shiftLeft, BitVec.getLsbD_one]
  by_cases h : y = b
  · subst h; simp [hb]
  · simp [h]; omega
end Jvm.PL
namespace Jvm.Pilot.@@N@@
open Jvm Jvm.ClassFile Sem Op Lib Jvm.Free Jvm.Stand Jvm.LawKit Jvm.RoadKit Jvm.AM Jvm.PL Jvm.Pilot.@@N@@.Jvm.D
def ci1 : CI := ("DredViewKeeper", 18, [("kindInsert", "I", .int), ("kindDelete", "I", .int), ("n", "I", .int), ("m", "I", .int), ("roundLimit", "I", .int), ("edgeCount", "I", .int), ("pendLen", "I", .int), ("lastAdd", "I", .int), ("lastRem", "I", .int)], [("edgeRow", "[I", .int, 32), ("reachRow", "[I", .int, 32), ("snapRow", "[I", .int, 32), ("deltaCur", "[I", .int, 32), ("deltaNext", "[I", .int, 32), ("doomedRow", "[I", .int, 32), ("pendKind", "[I", .int, 16), ("pendFrom", "[I", .int, 16), ("pendTo", "[I", .int, 16)])
def PP : PI := (tables_1, ci1)
def BIG : Nat := 1000000
def m0 : Meth := (⟨"DredViewKeeper", "<init>", "(II)V"⟩, prog_1_method_1_code, 5, none, { frames := 1, cells := 9, slots := 240, locals := 12 }, 1, true, 1, 18)
def m1 : Meth := (⟨"DredViewKeeperL3", "bit", "(III)I"⟩, method_2_code, 3, (some .int), { frames := 0, cells := 0, slots := 0, locals := 0 }, 1, false, 0, 0)
def m2 : Meth := (⟨"DredViewKeeper", "isValid", "(I)Z"⟩, prog_1_method_38_code, 2, (some .boolean), { frames := 0, cells := 0, slots := 0, locals := 0 }, 1, false, 0, 0)
def m3 : Meth := (⟨"DredViewKeeper", "edgePresent", "(II)Z"⟩, prog_1_method_41_code, 3, (some .boolean), { frames := 0, cells := 0, slots := 0, locals := 0 }, 1, false, 0, 0)
def m4 : Meth := (⟨"DredViewKeeper", "takeSnapshot", "()V"⟩, prog_1_method_35_code, 2, none, { frames := 0, cells := 0, slots := 0, locals := 0 }, 1, false, 0, 0)
def m5 : Meth := (⟨"DredViewKeeper", "bit", "(I)I"⟩, prog_1_method_39_code, 2, (some .int), { frames := 0, cells := 0, slots := 0, locals := 0 }, 1, false, 0, 0)
def m6 : Meth := (⟨"DredViewKeeper", "clearDelta", "()V"⟩, prog_1_method_33_code, 2, none, { frames := 0, cells := 0, slots := 0, locals := 0 }, 1, false, 0, 0)
def m7 : Meth := (⟨"DredViewKeeper", "mergeDeltaIntoReach", "()Z"⟩, prog_1_method_22_code, 4, (some .boolean), { frames := 0, cells := 0, slots := 0, locals := 0 }, 1, false, 0, 0)
def m8 : Meth := (⟨"DredViewKeeper", "gatherDelta", "(I)I"⟩, prog_1_method_30_code, 5, (some .int), { frames := 0, cells := 0, slots := 0, locals := 0 }, 1, false, 0, 0)
def m9 : Meth := (⟨"DredViewKeeper", "computeNextAdditions", "()V"⟩, prog_1_method_23_code, 3, none, { frames := 1, cells := 0, slots := 0, locals := 16 }, 1, false, 0, 0)
def m10 : Meth := (⟨"DredViewKeeper", "shiftDelta", "()V"⟩, prog_1_method_32_code, 2, none, { frames := 0, cells := 0, slots := 0, locals := 0 }, 1, false, 0, 0)
def m11 : Meth := (⟨"DredViewKeeper", "propagateAdditions", "()V"⟩, prog_1_method_21_code, 2, none, { frames := 2, cells := 0, slots := 0, locals := 30 }, 1, false, 0, 0)
def m12 : Meth := (⟨"DredViewKeeper", "addEdgeAndPropagate", "(II)V"⟩, prog_1_method_20_code, 5, none, { frames := 3, cells := 0, slots := 0, locals := 43 }, 1, false, 0, 0)
def m13 : Meth := (⟨"DredViewKeeper", "popCount", "(I)I"⟩, prog_1_method_42_code, 3, (some .int), { frames := 0, cells := 0, slots := 0, locals := 0 }, 1, false, 0, 0)
def m14 : Meth := (⟨"DredViewKeeper", "countAdded", "()I"⟩, prog_1_method_36_code, 3, (some .int), { frames := 1, cells := 0, slots := 0, locals := 15 }, 1, false, 0, 0)
def m15 : Meth := (⟨"DredViewKeeper", "insertEdge", "(II)I"⟩, prog_1_method_2_code, 3, (some .int), { frames := 4, cells := 0, slots := 0, locals := 59 }, 1, false, 0, 0)
def m16 : Meth := (⟨"DredViewKeeperL3", "step", "(II)I"⟩, method_3_code, 6, (some .int), { frames := 1, cells := 0, slots := 0, locals := 14 }, 1, false, 0, 0)
def m17 : Meth := (⟨"DredViewKeeper", "testBit", "(II)Z"⟩, prog_1_method_40_code, 3, (some .boolean), { frames := 0, cells := 0, slots := 0, locals := 0 }, 1, false, 0, 0)
def m18 : Meth := (⟨"DredViewKeeper", "reaches", "(II)Z"⟩, prog_1_method_9_code, 3, (some .boolean), { frames := 1, cells := 0, slots := 0, locals := 14 }, 1, false, 0, 0)
def m19 : Meth := (⟨"DredViewKeeper", "derivationCount", "(II)I"⟩, prog_1_method_10_code, 6, (some .int), { frames := 1, cells := 0, slots := 0, locals := 14 }, 1, false, 0, 0)
def m20 : Meth := (⟨"DredViewKeeper", "viewSize", "()I"⟩, prog_1_method_13_code, 3, (some .int), { frames := 1, cells := 0, slots := 0, locals := 15 }, 1, false, 0, 0)
def m21 : Meth := (⟨"DredViewKeeper", "edgeCount", "()I"⟩, prog_1_method_12_code, 1, (some .int), { frames := 0, cells := 0, slots := 0, locals := 0 }, 1, false, 0, 0)
def m22 : Meth := (x, code, maxLocals, ret, room_1, 1, true, 0, 0)
theorem ar_0 : (cA PP.2)[0]? = some ("edgeRow", "[I", .int, 32) := rfl
theorem ar_1 : (cA PP.2)[1]? = some ("reachRow", "[I", .int, 32) := rfl
theorem ar_2 : (cA PP.2)[2]? = some ("snapRow", "[I", .int, 32) := rfl
theorem ar_3 : (cA PP.2)[3]? = some ("deltaCur", "[I", .int, 32) := rfl
theorem ar_4 : (cA PP.2)[4]? = some ("deltaNext", "[I", .int, 32) := rfl
theorem ar_5 : (cA PP.2)[5]? = some ("doomedRow", "[I", .int, 32) := rfl
theorem ar_6 : (cA PP.2)[6]? = some ("pendKind", "[I", .int, 16) := rfl
theorem ar_7 : (cA PP.2)[7]? = some ("pendFrom", "[I", .int, 16) := rfl
theorem ar_8 : (cA PP.2)[8]? = some ("pendTo", "[I", .int, 16) := rfl
theorem fs_7 : FldS PP 7 0 .int := ⟨_, _, rfl, List.mem_of_getElem? (i := 9) rfl⟩
theorem fs_13 : FldS PP 13 1 .int := ⟨_, _, rfl, List.mem_of_getElem? (i := 11) rfl⟩
theorem fa_16 : FldA PP 16 0 .int := ⟨_, _, _, rfl, List.mem_of_getElem? (i := 14) rfl⟩
theorem fa_20 : FldA PP 20 1 .int := ⟨_, _, _, rfl, List.mem_of_getElem? (i := 16) rfl⟩
theorem fa_23 : FldA PP 23 2 .int := ⟨_, _, _, rfl, List.mem_of_getElem? (i := 18) rfl⟩
theorem fa_26 : FldA PP 26 3 .int := ⟨_, _, _, rfl, List.mem_of_getElem? (i := 20) rfl⟩
theorem fa_29 : FldA PP 29 4 .int := ⟨_, _, _, rfl, List.mem_of_getElem? (i := 22) rfl⟩
theorem fa_32 : FldA PP 32 5 .int := ⟨_, _, _, rfl, List.mem_of_getElem? (i := 24) rfl⟩
theorem fa_35 : FldA PP 35 6 .int := ⟨_, _, _, rfl, List.mem_of_getElem? (i := 26) rfl⟩
theorem fa_38 : FldA PP 38 7 .int := ⟨_, _, _, rfl, List.mem_of_getElem? (i := 28) rfl⟩
theorem fa_41 : FldA PP 41 8 .int := ⟨_, _, _, rfl, List.mem_of_getElem? (i := 30) rfl⟩
theorem fs_44 : FldS PP 44 2 .int := ⟨_, _, rfl, List.mem_of_getElem? (i := 32) rfl⟩
theorem fs_47 : FldS PP 47 3 .int := ⟨_, _, rfl, List.mem_of_getElem? (i := 34) rfl⟩
theorem fs_50 : FldS PP 50 4 .int := ⟨_, _, rfl, List.mem_of_getElem? (i := 36) rfl⟩
theorem fs_53 : FldS PP 53 5 .int := ⟨_, _, rfl, List.mem_of_getElem? (i := 38) rfl⟩
theorem fs_56 : FldS PP 56 6 .int := ⟨_, _, rfl, List.mem_of_getElem? (i := 40) rfl⟩
theorem fs_59 : FldS PP 59 7 .int := ⟨_, _, rfl, List.mem_of_getElem? (i := 42) rfl⟩
theorem fs_62 : FldS PP 62 8 .int := ⟨_, _, rfl, List.mem_of_getElem? (i := 44) rfl⟩
theorem wr_0 : Wrt PP m0 0 := ⟨_, _, _, rfl, Or.inr ⟨List.mem_of_getElem? (i := 10) rfl, rfl⟩⟩
theorem wr_1 : Wrt PP m0 1 := ⟨_, _, _, rfl, Or.inr ⟨List.mem_of_getElem? (i := 12) rfl, rfl⟩⟩
theorem wr_2 (M : Meth) : Wrt PP M 2 := ⟨_, _, _, rfl, Or.inl (List.mem_of_getElem? (i := 33) rfl)⟩
theorem wr_3 (M : Meth) : Wrt PP M 3 := ⟨_, _, _, rfl, Or.inl (List.mem_of_getElem? (i := 35) rfl)⟩
theorem wr_4 (M : Meth) : Wrt PP M 4 := ⟨_, _, _, rfl, Or.inl (List.mem_of_getElem? (i := 37) rfl)⟩
theorem wr_5 (M : Meth) : Wrt PP M 5 := ⟨_, _, _, rfl, Or.inl (List.mem_of_getElem? (i := 39) rfl)⟩
theorem wr_6 (M : Meth) : Wrt PP M 6 := ⟨_, _, _, rfl, Or.inl (List.mem_of_getElem? (i := 41) rfl)⟩
theorem wr_7 (M : Meth) : Wrt PP M 7 := ⟨_, _, _, rfl, Or.inl (List.mem_of_getElem? (i := 43) rfl)⟩
theorem wr_8 (M : Meth) : Wrt PP M 8 := ⟨_, _, _, rfl, Or.inl (List.mem_of_getElem? (i := 45) rfl)⟩
theorem oid_0 : 1 = (cK PP.2 + 1) * 0 + 1 := rfl
theorem pl_0 : plainName "DredViewKeeper" = true := by first | (simp [plainName, overriddenIn]; done) | decide +kernel
theorem pl_1 : plainName "DredViewKeeperL3" = true := by first | (simp [plainName, overriddenIn]; done) | decide +kernel
theorem hm_0 : (mY m0).cls = cN PP.2 := rfl
theorem hn_0 : 0 < mN m0 := by decide
theorem pd_0 : parseMethodDescriptor (mY m0).desc = some ⟨[.int, .int], none⟩ := by decide +kernel
theorem hn_1 : 0 < mN m1 := by decide
theorem pd_1 : parseMethodDescriptor (mY m1).desc = some ⟨[.int, .int, .int], (some .int)⟩ := by decide +kernel
theorem hm_2 : (mY m2).cls = cN PP.2 := rfl
theorem hn_2 : 0 < mN m2 := by decide
theorem pd_2 : parseMethodDescriptor (mY m2).desc = some ⟨[.int], (some .boolean)⟩ := by decide +kernel
theorem hm_3 : (mY m3).cls = cN PP.2 := rfl
theorem hn_3 : 0 < mN m3 := by decide
theorem pd_3 : parseMethodDescriptor (mY m3).desc = some ⟨[.int, .int], (some .boolean)⟩ := by decide +kernel
theorem hm_4 : (mY m4).cls = cN PP.2 := rfl
theorem hn_4 : 0 < mN m4 := by decide
theorem pd_4 : parseMethodDescriptor (mY m4).desc = some ⟨[], none⟩ := by decide +kernel
theorem hm_5 : (mY m5).cls = cN PP.2 := rfl
theorem hn_5 : 0 < mN m5 := by decide
theorem pd_5 : parseMethodDescriptor (mY m5).desc = some ⟨[.int], (some .int)⟩ := by decide +kernel
theorem hm_6 : (mY m6).cls = cN PP.2 := rfl
theorem hn_6 : 0 < mN m6 := by decide
theorem pd_6 : parseMethodDescriptor (mY m6).desc = some ⟨[], none⟩ := by decide +kernel
theorem hm_7 : (mY m7).cls = cN PP.2 := rfl
theorem hn_7 : 0 < mN m7 := by decide
theorem pd_7 : parseMethodDescriptor (mY m7).desc = some ⟨[], (some .boolean)⟩ := by decide +kernel
theorem hm_8 : (mY m8).cls = cN PP.2 := rfl
theorem hn_8 : 0 < mN m8 := by decide
theorem pd_8 : parseMethodDescriptor (mY m8).desc = some ⟨[.int], (some .int)⟩ := by decide +kernel
theorem hm_9 : (mY m9).cls = cN PP.2 := rfl
theorem hn_9 : 0 < mN m9 := by decide
theorem pd_9 : parseMethodDescriptor (mY m9).desc = some ⟨[], none⟩ := by decide +kernel
theorem hm_10 : (mY m10).cls = cN PP.2 := rfl
theorem hn_10 : 0 < mN m10 := by decide
theorem pd_10 : parseMethodDescriptor (mY m10).desc = some ⟨[], none⟩ := by decide +kernel
theorem hm_11 : (mY m11).cls = cN PP.2 := rfl
theorem hn_11 : 0 < mN m11 := by decide
theorem pd_11 : parseMethodDescriptor (mY m11).desc = some ⟨[], none⟩ := by decide +kernel
theorem hm_12 : (mY m12).cls = cN PP.2 := rfl
theorem hn_12 : 0 < mN m12 := by decide
theorem pd_12 : parseMethodDescriptor (mY m12).desc = some ⟨[.int, .int], none⟩ := by decide +kernel
theorem hm_13 : (mY m13).cls = cN PP.2 := rfl
theorem hn_13 : 0 < mN m13 := by decide
theorem pd_13 : parseMethodDescriptor (mY m13).desc = some ⟨[.int], (some .int)⟩ := by decide +kernel
theorem hm_14 : (mY m14).cls = cN PP.2 := rfl
theorem hn_14 : 0 < mN m14 := by decide
theorem pd_14 : parseMethodDescriptor (mY m14).desc = some ⟨[], (some .int)⟩ := by decide +kernel
theorem hm_15 : (mY m15).cls = cN PP.2 := rfl
theorem hn_15 : 0 < mN m15 := by decide
theorem pd_15 : parseMethodDescriptor (mY m15).desc = some ⟨[.int, .int], (some .int)⟩ := by decide +kernel
theorem hn_16 : 0 < mN m16 := by decide
theorem pd_16 : parseMethodDescriptor (mY m16).desc = some ⟨[.int, .int], (some .int)⟩ := by decide +kernel
theorem hm_17 : (mY m17).cls = cN PP.2 := rfl
theorem hn_17 : 0 < mN m17 := by decide
theorem pd_17 : parseMethodDescriptor (mY m17).desc = some ⟨[.int, .int], (some .boolean)⟩ := by decide +kernel
theorem hm_18 : (mY m18).cls = cN PP.2 := rfl
theorem hn_18 : 0 < mN m18 := by decide
theorem pd_18 : parseMethodDescriptor (mY m18).desc = some ⟨[.int, .int], (some .boolean)⟩ := by decide +kernel
theorem hm_19 : (mY m19).cls = cN PP.2 := rfl
theorem hn_19 : 0 < mN m19 := by decide
theorem pd_19 : parseMethodDescriptor (mY m19).desc = some ⟨[.int, .int], (some .int)⟩ := by decide +kernel
theorem hm_20 : (mY m20).cls = cN PP.2 := rfl
theorem hn_20 : 0 < mN m20 := by decide
theorem pd_20 : parseMethodDescriptor (mY m20).desc = some ⟨[], (some .int)⟩ := by decide +kernel
theorem hm_21 : (mY m21).cls = cN PP.2 := rfl
theorem hn_21 : 0 < mN m21 := by decide
theorem pd_21 : parseMethodDescriptor (mY m21).desc = some ⟨[], (some .int)⟩ := by decide +kernel
theorem hn_22 : 0 < mN m22 := by decide
theorem d0_0 : decode (mB m0) 0 = .ok (.aload_n 0, 1) := by decide +kernel
theorem d0_1 : decode (mB m0) 1 = .ok (.invokespecial 1, 3) := by decide +kernel
theorem d0_4 : decode (mB m0) 4 = .ok (.aload_n 0, 1) := by decide +kernel
theorem d0_5 : decode (mB m0) 5 = .ok (.iconst 1, 1) := by decide +kernel
theorem d0_6 : decode (mB m0) 6 = .ok (.putfield 7, 3) := by decide +kernel
theorem d0_9 : decode (mB m0) 9 = .ok (.aload_n 0, 1) := by decide +kernel
theorem d0_10 : decode (mB m0) 10 = .ok (.iconst 2, 1) := by decide +kernel
theorem d0_11 : decode (mB m0) 11 = .ok (.putfield 13, 3) := by decide +kernel
theorem d0_14 : decode (mB m0) 14 = .ok (.aload_n 0, 1) := by decide +kernel
theorem d0_15 : decode (mB m0) 15 = .ok (.bipush 32, 2) := by decide +kernel
theorem d0_17 : decode (mB m0) 17 = .ok (.newarray .int, 2) := by decide +kernel
theorem d0_19 : decode (mB m0) 19 = .ok (.putfield 16, 3) := by decide +kernel
theorem d0_22 : decode (mB m0) 22 = .ok (.aload_n 0, 1) := by decide +kernel
theorem d0_23 : decode (mB m0) 23 = .ok (.bipush 32, 2) := by decide +kernel
theorem d0_25 : decode (mB m0) 25 = .ok (.newarray .int, 2) := by decide +kernel
theorem d0_27 : decode (mB m0) 27 = .ok (.putfield 20, 3) := by decide +kernel
theorem d0_30 : decode (mB m0) 30 = .ok (.aload_n 0, 1) := by decide +kernel
theorem d0_31 : decode (mB m0) 31 = .ok (.bipush 32, 2) := by decide +kernel
theorem d0_33 : decode (mB m0) 33 = .ok (.newarray .int, 2) := by decide +kernel
theorem d0_35 : decode (mB m0) 35 = .ok (.putfield 23, 3) := by decide +kernel
theorem d0_38 : decode (mB m0) 38 = .ok (.aload_n 0, 1) := by decide +kernel
theorem d0_39 : decode (mB m0) 39 = .ok (.bipush 32, 2) := by decide +kernel
theorem d0_41 : decode (mB m0) 41 = .ok (.newarray .int, 2) := by decide +kernel
theorem d0_43 : decode (mB m0) 43 = .ok (.putfield 26, 3) := by decide +kernel
theorem d0_46 : decode (mB m0) 46 = .ok (.aload_n 0, 1) := by decide +kernel
theorem d0_47 : decode (mB m0) 47 = .ok (.bipush 32, 2) := by decide +kernel
theorem d0_49 : decode (mB m0) 49 = .ok (.newarray .int, 2) := by decide +kernel
theorem d0_51 : decode (mB m0) 51 = .ok (.putfield 29, 3) := by decide +kernel
theorem d0_54 : decode (mB m0) 54 = .ok (.aload_n 0, 1) := by decide +kernel
theorem d0_55 : decode (mB m0) 55 = .ok (.bipush 32, 2) := by decide +kernel
theorem d0_57 : decode (mB m0) 57 = .ok (.newarray .int, 2) := by decide +kernel
theorem d0_59 : decode (mB m0) 59 = .ok (.putfield 32, 3) := by decide +kernel
theorem d0_62 : decode (mB m0) 62 = .ok (.aload_n 0, 1) := by decide +kernel
theorem d0_63 : decode (mB m0) 63 = .ok (.bipush 16, 2) := by decide +kernel
theorem d0_65 : decode (mB m0) 65 = .ok (.newarray .int, 2) := by decide +kernel
theorem d0_67 : decode (mB m0) 67 = .ok (.putfield 35, 3) := by decide +kernel
theorem d0_70 : decode (mB m0) 70 = .ok (.aload_n 0, 1) := by decide +kernel
theorem d0_71 : decode (mB m0) 71 = .ok (.bipush 16, 2) := by decide +kernel
theorem d0_73 : decode (mB m0) 73 = .ok (.newarray .int, 2) := by decide +kernel
theorem d0_75 : decode (mB m0) 75 = .ok (.putfield 38, 3) := by decide +kernel
theorem d0_78 : decode (mB m0) 78 = .ok (.aload_n 0, 1) := by decide +kernel
theorem d0_79 : decode (mB m0) 79 = .ok (.bipush 16, 2) := by decide +kernel
theorem d0_81 : decode (mB m0) 81 = .ok (.newarray .int, 2) := by decide +kernel
theorem d0_83 : decode (mB m0) 83 = .ok (.putfield 41, 3) := by decide +kernel
theorem d0_86 : decode (mB m0) 86 = .ok (.iload_n 1, 1) := by decide +kernel
theorem d0_87 : decode (mB m0) 87 = .ok (.istore_n 3, 1) := by decide +kernel
theorem d0_88 : decode (mB m0) 88 = .ok (.iload_n 3, 1) := by decide +kernel
theorem d0_89 : decode (mB m0) 89 = .ok (.iconst 2, 1) := by decide +kernel
theorem d0_90 : decode (mB m0) 90 = .ok (.if_icmp .ge 5, 3) := by decide +kernel
theorem d0_93 : decode (mB m0) 93 = .ok (.iconst 2, 1) := by decide +kernel
theorem d0_94 : decode (mB m0) 94 = .ok (.istore_n 3, 1) := by decide +kernel
theorem d0_95 : decode (mB m0) 95 = .ok (.iload_n 3, 1) := by decide +kernel
theorem d0_96 : decode (mB m0) 96 = .ok (.bipush 32, 2) := by decide +kernel
theorem d0_98 : decode (mB m0) 98 = .ok (.if_icmp .le 6, 3) := by decide +kernel
theorem d0_101 : decode (mB m0) 101 = .ok (.bipush 32, 2) := by decide +kernel
theorem d0_103 : decode (mB m0) 103 = .ok (.istore_n 3, 1) := by decide +kernel
theorem d0_104 : decode (mB m0) 104 = .ok (.iload_n 2, 1) := by decide +kernel
theorem d0_105 : decode (mB m0) 105 = .ok (.istore 4, 2) := by decide +kernel
theorem d0_107 : decode (mB m0) 107 = .ok (.iload 4, 2) := by decide +kernel
theorem d0_109 : decode (mB m0) 109 = .ok (.iconst 1, 1) := by decide +kernel
theorem d0_110 : decode (mB m0) 110 = .ok (.if_icmp .ge 6, 3) := by decide +kernel
theorem d0_113 : decode (mB m0) 113 = .ok (.iconst 1, 1) := by decide +kernel
theorem d0_114 : decode (mB m0) 114 = .ok (.istore 4, 2) := by decide +kernel
theorem d0_116 : decode (mB m0) 116 = .ok (.iload 4, 2) := by decide +kernel
theorem d0_118 : decode (mB m0) 118 = .ok (.sipush 256, 3) := by decide +kernel
theorem d0_121 : decode (mB m0) 121 = .ok (.if_icmp .le 8, 3) := by decide +kernel
theorem d0_124 : decode (mB m0) 124 = .ok (.sipush 256, 3) := by decide +kernel
theorem d0_127 : decode (mB m0) 127 = .ok (.istore 4, 2) := by decide +kernel
theorem d0_129 : decode (mB m0) 129 = .ok (.aload_n 0, 1) := by decide +kernel
theorem d0_130 : decode (mB m0) 130 = .ok (.iload_n 3, 1) := by decide +kernel
theorem d0_131 : decode (mB m0) 131 = .ok (.putfield 44, 3) := by decide +kernel
theorem d0_134 : decode (mB m0) 134 = .ok (.aload_n 0, 1) := by decide +kernel
theorem d0_135 : decode (mB m0) 135 = .ok (.iload 4, 2) := by decide +kernel
theorem d0_137 : decode (mB m0) 137 = .ok (.putfield 47, 3) := by decide +kernel
theorem d0_140 : decode (mB m0) 140 = .ok (.aload_n 0, 1) := by decide +kernel
theorem d0_141 : decode (mB m0) 141 = .ok (.iload_n 3, 1) := by decide +kernel
theorem d0_142 : decode (mB m0) 142 = .ok (.iload_n 3, 1) := by decide +kernel
theorem d0_143 : decode (mB m0) 143 = .ok (.imul, 1) := by decide +kernel
theorem d0_144 : decode (mB m0) 144 = .ok (.iconst 2, 1) := by decide +kernel
theorem d0_145 : decode (mB m0) 145 = .ok (.iadd, 1) := by decide +kernel
theorem d0_146 : decode (mB m0) 146 = .ok (.putfield 50, 3) := by decide +kernel
theorem d0_149 : decode (mB m0) 149 = .ok (.aload_n 0, 1) := by decide +kernel
theorem d0_150 : decode (mB m0) 150 = .ok (.iconst 0, 1) := by decide +kernel
theorem d0_151 : decode (mB m0) 151 = .ok (.putfield 53, 3) := by decide +kernel
theorem d0_154 : decode (mB m0) 154 = .ok (.aload_n 0, 1) := by decide +kernel
theorem d0_155 : decode (mB m0) 155 = .ok (.iconst 0, 1) := by decide +kernel
theorem d0_156 : decode (mB m0) 156 = .ok (.putfield 56, 3) := by decide +kernel
theorem d0_159 : decode (mB m0) 159 = .ok (.aload_n 0, 1) := by decide +kernel
theorem d0_160 : decode (mB m0) 160 = .ok (.iconst 0, 1) := by decide +kernel
theorem d0_161 : decode (mB m0) 161 = .ok (.putfield 59, 3) := by decide +kernel
theorem d0_164 : decode (mB m0) 164 = .ok (.aload_n 0, 1) := by decide +kernel
theorem d0_165 : decode (mB m0) 165 = .ok (.iconst 0, 1) := by decide +kernel
theorem d0_166 : decode (mB m0) 166 = .ok (.putfield 62, 3) := by decide +kernel
theorem d0_169 : decode (mB m0) 169 = .ok (.return_, 1) := by decide +kernel
theorem d1_0 : decode (mB m1) 0 = .ok (.iload_n 0, 1) := by decide +kernel
theorem d1_1 : decode (mB m1) 1 = .ok (.iload_n 1, 1) := by decide +kernel
theorem d1_2 : decode (mB m1) 2 = .ok (.iconst 3, 1) := by decide +kernel
theorem d1_3 : decode (mB m1) 3 = .ok (.imul, 1) := by decide +kernel
theorem d1_4 : decode (mB m1) 4 = .ok (.iload_n 2, 1) := by decide +kernel
theorem d1_5 : decode (mB m1) 5 = .ok (.iadd, 1) := by decide +kernel
theorem d1_6 : decode (mB m1) 6 = .ok (.ishr, 1) := by decide +kernel
theorem d1_7 : decode (mB m1) 7 = .ok (.iconst 1, 1) := by decide +kernel
theorem d1_8 : decode (mB m1) 8 = .ok (.iand, 1) := by decide +kernel
theorem d1_9 : decode (mB m1) 9 = .ok (.ireturn, 1) := by decide +kernel
theorem d2_0 : decode (mB m2) 0 = .ok (.iload_n 1, 1) := by decide +kernel
theorem d2_1 : decode (mB m2) 1 = .ok (.ifCond .lt 15, 3) := by decide +kernel
theorem d2_4 : decode (mB m2) 4 = .ok (.iload_n 1, 1) := by decide +kernel
theorem d2_5 : decode (mB m2) 5 = .ok (.aload_n 0, 1) := by decide +kernel
theorem d2_6 : decode (mB m2) 6 = .ok (.getfield 44, 3) := by decide +kernel
theorem d2_9 : decode (mB m2) 9 = .ok (.if_icmp .ge 7, 3) := by decide +kernel
theorem d2_12 : decode (mB m2) 12 = .ok (.iconst 1, 1) := by decide +kernel
theorem d2_13 : decode (mB m2) 13 = .ok (.goto 4, 3) := by decide +kernel
theorem d2_16 : decode (mB m2) 16 = .ok (.iconst 0, 1) := by decide +kernel
theorem d2_17 : decode (mB m2) 17 = .ok (.ireturn, 1) := by decide +kernel
theorem d3_0 : decode (mB m3) 0 = .ok (.aload_n 0, 1) := by decide +kernel
theorem d3_1 : decode (mB m3) 1 = .ok (.getfield 16, 3) := by decide +kernel
theorem d3_4 : decode (mB m3) 4 = .ok (.iload_n 1, 1) := by decide +kernel
theorem d3_5 : decode (mB m3) 5 = .ok (.iaload, 1) := by decide +kernel
theorem d3_6 : decode (mB m3) 6 = .ok (.iload_n 2, 1) := by decide +kernel
theorem d3_7 : decode (mB m3) 7 = .ok (.iushr, 1) := by decide +kernel
theorem d3_8 : decode (mB m3) 8 = .ok (.iconst 1, 1) := by decide +kernel
theorem d3_9 : decode (mB m3) 9 = .ok (.iand, 1) := by decide +kernel
theorem d3_10 : decode (mB m3) 10 = .ok (.ifCond .eq 7, 3) := by decide +kernel
theorem d3_13 : decode (mB m3) 13 = .ok (.iconst 1, 1) := by decide +kernel
theorem d3_14 : decode (mB m3) 14 = .ok (.goto 4, 3) := by decide +kernel
theorem d3_17 : decode (mB m3) 17 = .ok (.iconst 0, 1) := by decide +kernel
theorem d3_18 : decode (mB m3) 18 = .ok (.ireturn, 1) := by decide +kernel
theorem d4_0 : decode (mB m4) 0 = .ok (.iconst 0, 1) := by decide +kernel
theorem d4_1 : decode (mB m4) 1 = .ok (.istore_n 1, 1) := by decide +kernel
theorem d4_2 : decode (mB m4) 2 = .ok (.iload_n 1, 1) := by decide +kernel
theorem d4_3 : decode (mB m4) 3 = .ok (.bipush 32, 2) := by decide +kernel
theorem d4_5 : decode (mB m4) 5 = .ok (.if_icmp .ge 21, 3) := by decide +kernel
theorem d4_8 : decode (mB m4) 8 = .ok (.aload_n 0, 1) := by decide +kernel
theorem d4_9 : decode (mB m4) 9 = .ok (.getfield 23, 3) := by decide +kernel
theorem d4_12 : decode (mB m4) 12 = .ok (.iload_n 1, 1) := by decide +kernel
theorem d4_13 : decode (mB m4) 13 = .ok (.aload_n 0, 1) := by decide +kernel
theorem d4_14 : decode (mB m4) 14 = .ok (.getfield 20, 3) := by decide +kernel
theorem d4_17 : decode (mB m4) 17 = .ok (.iload_n 1, 1) := by decide +kernel
theorem d4_18 : decode (mB m4) 18 = .ok (.iaload, 1) := by decide +kernel
theorem d4_19 : decode (mB m4) 19 = .ok (.iastore, 1) := by decide +kernel
theorem d4_20 : decode (mB m4) 20 = .ok (.iinc 1 1, 3) := by decide +kernel
theorem d4_23 : decode (mB m4) 23 = .ok (.goto (-21), 3) := by decide +kernel
theorem d4_26 : decode (mB m4) 26 = .ok (.return_, 1) := by decide +kernel
theorem d5_0 : decode (mB m5) 0 = .ok (.iconst 1, 1) := by decide +kernel
theorem d5_1 : decode (mB m5) 1 = .ok (.iload_n 1, 1) := by decide +kernel
theorem d5_2 : decode (mB m5) 2 = .ok (.ishl, 1) := by decide +kernel
theorem d5_3 : decode (mB m5) 3 = .ok (.ireturn, 1) := by decide +kernel
theorem d6_0 : decode (mB m6) 0 = .ok (.iconst 0, 1) := by decide +kernel
theorem d6_1 : decode (mB m6) 1 = .ok (.istore_n 1, 1) := by decide +kernel
theorem d6_2 : decode (mB m6) 2 = .ok (.iload_n 1, 1) := by decide +kernel
theorem d6_3 : decode (mB m6) 3 = .ok (.bipush 32, 2) := by decide +kernel
theorem d6_5 : decode (mB m6) 5 = .ok (.if_icmp .ge 23, 3) := by decide +kernel
theorem d6_8 : decode (mB m6) 8 = .ok (.aload_n 0, 1) := by decide +kernel
theorem d6_9 : decode (mB m6) 9 = .ok (.getfield 26, 3) := by decide +kernel
theorem d6_12 : decode (mB m6) 12 = .ok (.iload_n 1, 1) := by decide +kernel
theorem d6_13 : decode (mB m6) 13 = .ok (.iconst 0, 1) := by decide +kernel
theorem d6_14 : decode (mB m6) 14 = .ok (.iastore, 1) := by decide +kernel
theorem d6_15 : decode (mB m6) 15 = .ok (.aload_n 0, 1) := by decide +kernel
theorem d6_16 : decode (mB m6) 16 = .ok (.getfield 29, 3) := by decide +kernel
theorem d6_19 : decode (mB m6) 19 = .ok (.iload_n 1, 1) := by decide +kernel
theorem d6_20 : decode (mB m6) 20 = .ok (.iconst 0, 1) := by decide +kernel
theorem d6_21 : decode (mB m6) 21 = .ok (.iastore, 1) := by decide +kernel
theorem d6_22 : decode (mB m6) 22 = .ok (.iinc 1 1, 3) := by decide +kernel
theorem d6_25 : decode (mB m6) 25 = .ok (.goto (-23), 3) := by decide +kernel
theorem d6_28 : decode (mB m6) 28 = .ok (.return_, 1) := by decide +kernel
theorem d7_0 : decode (mB m7) 0 = .ok (.iconst 0, 1) := by decide +kernel
theorem d7_1 : decode (mB m7) 1 = .ok (.istore_n 1, 1) := by decide +kernel
theorem d7_2 : decode (mB m7) 2 = .ok (.iconst 0, 1) := by decide +kernel
theorem d7_3 : decode (mB m7) 3 = .ok (.istore_n 2, 1) := by decide +kernel
theorem d7_4 : decode (mB m7) 4 = .ok (.iload_n 2, 1) := by decide +kernel
theorem d7_5 : decode (mB m7) 5 = .ok (.aload_n 0, 1) := by decide +kernel
theorem d7_6 : decode (mB m7) 6 = .ok (.getfield 44, 3) := by decide +kernel
theorem d7_9 : decode (mB m7) 9 = .ok (.if_icmp .ge 36, 3) := by decide +kernel
theorem d7_12 : decode (mB m7) 12 = .ok (.aload_n 0, 1) := by decide +kernel
theorem d7_13 : decode (mB m7) 13 = .ok (.getfield 26, 3) := by decide +kernel
theorem d7_16 : decode (mB m7) 16 = .ok (.iload_n 2, 1) := by decide +kernel
theorem d7_17 : decode (mB m7) 17 = .ok (.iaload, 1) := by decide +kernel
theorem d7_18 : decode (mB m7) 18 = .ok (.istore_n 3, 1) := by decide +kernel
theorem d7_19 : decode (mB m7) 19 = .ok (.iload_n 3, 1) := by decide +kernel
theorem d7_20 : decode (mB m7) 20 = .ok (.ifCond .eq 19, 3) := by decide +kernel
theorem d7_23 : decode (mB m7) 23 = .ok (.aload_n 0, 1) := by decide +kernel
theorem d7_24 : decode (mB m7) 24 = .ok (.getfield 20, 3) := by decide +kernel
theorem d7_27 : decode (mB m7) 27 = .ok (.iload_n 2, 1) := by decide +kernel
theorem d7_28 : decode (mB m7) 28 = .ok (.aload_n 0, 1) := by decide +kernel
theorem d7_29 : decode (mB m7) 29 = .ok (.getfield 20, 3) := by decide +kernel
theorem d7_32 : decode (mB m7) 32 = .ok (.iload_n 2, 1) := by decide +kernel
theorem d7_33 : decode (mB m7) 33 = .ok (.iaload, 1) := by decide +kernel
theorem d7_34 : decode (mB m7) 34 = .ok (.iload_n 3, 1) := by decide +kernel
theorem d7_35 : decode (mB m7) 35 = .ok (.ior, 1) := by decide +kernel
theorem d7_36 : decode (mB m7) 36 = .ok (.iastore, 1) := by decide +kernel
theorem d7_37 : decode (mB m7) 37 = .ok (.iconst 1, 1) := by decide +kernel
theorem d7_38 : decode (mB m7) 38 = .ok (.istore_n 1, 1) := by decide +kernel
theorem d7_39 : decode (mB m7) 39 = .ok (.iinc 2 1, 3) := by decide +kernel
theorem d7_42 : decode (mB m7) 42 = .ok (.goto (-38), 3) := by decide +kernel
theorem d7_45 : decode (mB m7) 45 = .ok (.iload_n 1, 1) := by decide +kernel
theorem d7_46 : decode (mB m7) 46 = .ok (.ireturn, 1) := by decide +kernel
theorem d8_0 : decode (mB m8) 0 = .ok (.aload_n 0, 1) := by decide +kernel
theorem d8_1 : decode (mB m8) 1 = .ok (.getfield 16, 3) := by decide +kernel
theorem d8_4 : decode (mB m8) 4 = .ok (.iload_n 1, 1) := by decide +kernel
theorem d8_5 : decode (mB m8) 5 = .ok (.iaload, 1) := by decide +kernel
theorem d8_6 : decode (mB m8) 6 = .ok (.istore_n 2, 1) := by decide +kernel
theorem d8_7 : decode (mB m8) 7 = .ok (.iconst 0, 1) := by decide +kernel
theorem d8_8 : decode (mB m8) 8 = .ok (.istore_n 3, 1) := by decide +kernel
theorem d8_9 : decode (mB m8) 9 = .ok (.iconst 0, 1) := by decide +kernel
theorem d8_10 : decode (mB m8) 10 = .ok (.istore 4, 2) := by decide +kernel
theorem d8_12 : decode (mB m8) 12 = .ok (.iload 4, 2) := by decide +kernel
theorem d8_14 : decode (mB m8) 14 = .ok (.aload_n 0, 1) := by decide +kernel
theorem d8_15 : decode (mB m8) 15 = .ok (.getfield 44, 3) := by decide +kernel
theorem d8_18 : decode (mB m8) 18 = .ok (.if_icmp .ge 28, 3) := by decide +kernel
theorem d8_21 : decode (mB m8) 21 = .ok (.iload_n 2, 1) := by decide +kernel
theorem d8_22 : decode (mB m8) 22 = .ok (.iload 4, 2) := by decide +kernel
theorem d8_24 : decode (mB m8) 24 = .ok (.iushr, 1) := by decide +kernel
theorem d8_25 : decode (mB m8) 25 = .ok (.iconst 1, 1) := by decide +kernel
theorem d8_26 : decode (mB m8) 26 = .ok (.iand, 1) := by decide +kernel
theorem d8_27 : decode (mB m8) 27 = .ok (.ifCond .eq 13, 3) := by decide +kernel
theorem d8_30 : decode (mB m8) 30 = .ok (.iload_n 3, 1) := by decide +kernel
theorem d8_31 : decode (mB m8) 31 = .ok (.aload_n 0, 1) := by decide +kernel
theorem d8_32 : decode (mB m8) 32 = .ok (.getfield 26, 3) := by decide +kernel
theorem d8_35 : decode (mB m8) 35 = .ok (.iload 4, 2) := by decide +kernel
theorem d8_37 : decode (mB m8) 37 = .ok (.iaload, 1) := by decide +kernel
theorem d8_38 : decode (mB m8) 38 = .ok (.ior, 1) := by decide +kernel
theorem d8_39 : decode (mB m8) 39 = .ok (.istore_n 3, 1) := by decide +kernel
theorem d8_40 : decode (mB m8) 40 = .ok (.iinc 4 1, 3) := by decide +kernel
theorem d8_43 : decode (mB m8) 43 = .ok (.goto (-31), 3) := by decide +kernel
theorem d8_46 : decode (mB m8) 46 = .ok (.iload_n 3, 1) := by decide +kernel
theorem d8_47 : decode (mB m8) 47 = .ok (.ireturn, 1) := by decide +kernel
theorem d9_0 : decode (mB m9) 0 = .ok (.iconst 0, 1) := by decide +kernel
theorem d9_1 : decode (mB m9) 1 = .ok (.istore_n 1, 1) := by decide +kernel
theorem d9_2 : decode (mB m9) 2 = .ok (.iload_n 1, 1) := by decide +kernel
theorem d9_3 : decode (mB m9) 3 = .ok (.aload_n 0, 1) := by decide +kernel
theorem d9_4 : decode (mB m9) 4 = .ok (.getfield 44, 3) := by decide +kernel
theorem d9_7 : decode (mB m9) 7 = .ok (.if_icmp .ge 31, 3) := by decide +kernel
theorem d9_10 : decode (mB m9) 10 = .ok (.aload_n 0, 1) := by decide +kernel
theorem d9_11 : decode (mB m9) 11 = .ok (.iload_n 1, 1) := by decide +kernel
theorem d9_12 : decode (mB m9) 12 = .ok (.invokevirtual 124, 3) := by decide +kernel
theorem d9_15 : decode (mB m9) 15 = .ok (.istore_n 2, 1) := by decide +kernel
theorem d9_16 : decode (mB m9) 16 = .ok (.aload_n 0, 1) := by decide +kernel
theorem d9_17 : decode (mB m9) 17 = .ok (.getfield 29, 3) := by decide +kernel
theorem d9_20 : decode (mB m9) 20 = .ok (.iload_n 1, 1) := by decide +kernel
theorem d9_21 : decode (mB m9) 21 = .ok (.iload_n 2, 1) := by decide +kernel
theorem d9_22 : decode (mB m9) 22 = .ok (.aload_n 0, 1) := by decide +kernel
theorem d9_23 : decode (mB m9) 23 = .ok (.getfield 20, 3) := by decide +kernel
theorem d9_26 : decode (mB m9) 26 = .ok (.iload_n 1, 1) := by decide +kernel
theorem d9_27 : decode (mB m9) 27 = .ok (.iaload, 1) := by decide +kernel
theorem d9_28 : decode (mB m9) 28 = .ok (.iconst (-1), 1) := by decide +kernel
theorem d9_29 : decode (mB m9) 29 = .ok (.ixor, 1) := by decide +kernel
theorem d9_30 : decode (mB m9) 30 = .ok (.iand, 1) := by decide +kernel
theorem d9_31 : decode (mB m9) 31 = .ok (.iastore, 1) := by decide +kernel
theorem d9_32 : decode (mB m9) 32 = .ok (.iinc 1 1, 3) := by decide +kernel
theorem d9_35 : decode (mB m9) 35 = .ok (.goto (-33), 3) := by decide +kernel
theorem d9_38 : decode (mB m9) 38 = .ok (.return_, 1) := by decide +kernel
theorem d10_0 : decode (mB m10) 0 = .ok (.iconst 0, 1) := by decide +kernel
theorem d10_1 : decode (mB m10) 1 = .ok (.istore_n 1, 1) := by decide +kernel
theorem d10_2 : decode (mB m10) 2 = .ok (.iload_n 1, 1) := by decide +kernel
theorem d10_3 : decode (mB m10) 3 = .ok (.bipush 32, 2) := by decide +kernel
theorem d10_5 : decode (mB m10) 5 = .ok (.if_icmp .ge 28, 3) := by decide +kernel
theorem d10_8 : decode (mB m10) 8 = .ok (.aload_n 0, 1) := by decide +kernel
theorem d10_9 : decode (mB m10) 9 = .ok (.getfield 26, 3) := by decide +kernel
theorem d10_12 : decode (mB m10) 12 = .ok (.iload_n 1, 1) := by decide +kernel
theorem d10_13 : decode (mB m10) 13 = .ok (.aload_n 0, 1) := by decide +kernel
theorem d10_14 : decode (mB m10) 14 = .ok (.getfield 29, 3) := by decide +kernel
theorem d10_17 : decode (mB m10) 17 = .ok (.iload_n 1, 1) := by decide +kernel
theorem d10_18 : decode (mB m10) 18 = .ok (.iaload, 1) := by decide +kernel
theorem d10_19 : decode (mB m10) 19 = .ok (.iastore, 1) := by decide +kernel
theorem d10_20 : decode (mB m10) 20 = .ok (.aload_n 0, 1) := by decide +kernel
theorem d10_21 : decode (mB m10) 21 = .ok (.getfield 29, 3) := by decide +kernel
theorem d10_24 : decode (mB m10) 24 = .ok (.iload_n 1, 1) := by decide +kernel
theorem d10_25 : decode (mB m10) 25 = .ok (.iconst 0, 1) := by decide +kernel
theorem d10_26 : decode (mB m10) 26 = .ok (.iastore, 1) := by decide +kernel
theorem d10_27 : decode (mB m10) 27 = .ok (.iinc 1 1, 3) := by decide +kernel
theorem d10_30 : decode (mB m10) 30 = .ok (.goto (-28), 3) := by decide +kernel
theorem d10_33 : decode (mB m10) 33 = .ok (.return_, 1) := by decide +kernel
theorem d11_0 : decode (mB m11) 0 = .ok (.iconst 0, 1) := by decide +kernel
theorem d11_1 : decode (mB m11) 1 = .ok (.istore_n 1, 1) := by decide +kernel
theorem d11_2 : decode (mB m11) 2 = .ok (.iload_n 1, 1) := by decide +kernel
theorem d11_3 : decode (mB m11) 3 = .ok (.aload_n 0, 1) := by decide +kernel
theorem d11_4 : decode (mB m11) 4 = .ok (.getfield 50, 3) := by decide +kernel
theorem d11_7 : decode (mB m11) 7 = .ok (.if_icmp .ge 25, 3) := by decide +kernel
theorem d11_10 : decode (mB m11) 10 = .ok (.aload_n 0, 1) := by decide +kernel
theorem d11_11 : decode (mB m11) 11 = .ok (.invokevirtual 114, 3) := by decide +kernel
theorem d11_14 : decode (mB m11) 14 = .ok (.ifCond .ne 4, 3) := by decide +kernel
theorem d11_17 : decode (mB m11) 17 = .ok (.return_, 1) := by decide +kernel
theorem d11_18 : decode (mB m11) 18 = .ok (.aload_n 0, 1) := by decide +kernel
theorem d11_19 : decode (mB m11) 19 = .ok (.invokevirtual 118, 3) := by decide +kernel
theorem d11_22 : decode (mB m11) 22 = .ok (.aload_n 0, 1) := by decide +kernel
theorem d11_23 : decode (mB m11) 23 = .ok (.invokevirtual 121, 3) := by decide +kernel
theorem d11_26 : decode (mB m11) 26 = .ok (.iinc 1 1, 3) := by decide +kernel
theorem d11_29 : decode (mB m11) 29 = .ok (.goto (-27), 3) := by decide +kernel
theorem d11_32 : decode (mB m11) 32 = .ok (.return_, 1) := by decide +kernel
theorem d12_0 : decode (mB m12) 0 = .ok (.aload_n 0, 1) := by decide +kernel
theorem d12_1 : decode (mB m12) 1 = .ok (.iload_n 2, 1) := by decide +kernel
theorem d12_2 : decode (mB m12) 2 = .ok (.invokevirtual 105, 3) := by decide +kernel
theorem d12_5 : decode (mB m12) 5 = .ok (.istore_n 3, 1) := by decide +kernel
theorem d12_6 : decode (mB m12) 6 = .ok (.aload_n 0, 1) := by decide +kernel
theorem d12_7 : decode (mB m12) 7 = .ok (.getfield 16, 3) := by decide +kernel
theorem d12_10 : decode (mB m12) 10 = .ok (.iload_n 1, 1) := by decide +kernel
theorem d12_11 : decode (mB m12) 11 = .ok (.aload_n 0, 1) := by decide +kernel
theorem d12_12 : decode (mB m12) 12 = .ok (.getfield 16, 3) := by decide +kernel
theorem d12_15 : decode (mB m12) 15 = .ok (.iload_n 1, 1) := by decide +kernel
theorem d12_16 : decode (mB m12) 16 = .ok (.iaload, 1) := by decide +kernel
theorem d12_17 : decode (mB m12) 17 = .ok (.iload_n 3, 1) := by decide +kernel
theorem d12_18 : decode (mB m12) 18 = .ok (.ior, 1) := by decide +kernel
theorem d12_19 : decode (mB m12) 19 = .ok (.iastore, 1) := by decide +kernel
theorem d12_20 : decode (mB m12) 20 = .ok (.aload_n 0, 1) := by decide +kernel
theorem d12_21 : decode (mB m12) 21 = .ok (.dup, 1) := by decide +kernel
theorem d12_22 : decode (mB m12) 22 = .ok (.getfield 53, 3) := by decide +kernel
theorem d12_25 : decode (mB m12) 25 = .ok (.iconst 1, 1) := by decide +kernel
theorem d12_26 : decode (mB m12) 26 = .ok (.iadd, 1) := by decide +kernel
theorem d12_27 : decode (mB m12) 27 = .ok (.putfield 53, 3) := by decide +kernel
theorem d12_30 : decode (mB m12) 30 = .ok (.aload_n 0, 1) := by decide +kernel
theorem d12_31 : decode (mB m12) 31 = .ok (.invokevirtual 108, 3) := by decide +kernel
theorem d12_34 : decode (mB m12) 34 = .ok (.iload_n 3, 1) := by decide +kernel
theorem d12_35 : decode (mB m12) 35 = .ok (.aload_n 0, 1) := by decide +kernel
theorem d12_36 : decode (mB m12) 36 = .ok (.getfield 20, 3) := by decide +kernel
theorem d12_39 : decode (mB m12) 39 = .ok (.iload_n 2, 1) := by decide +kernel
theorem d12_40 : decode (mB m12) 40 = .ok (.iaload, 1) := by decide +kernel
theorem d12_41 : decode (mB m12) 41 = .ok (.ior, 1) := by decide +kernel
theorem d12_42 : decode (mB m12) 42 = .ok (.istore 4, 2) := by decide +kernel
theorem d12_44 : decode (mB m12) 44 = .ok (.aload_n 0, 1) := by decide +kernel
theorem d12_45 : decode (mB m12) 45 = .ok (.getfield 26, 3) := by decide +kernel
theorem d12_48 : decode (mB m12) 48 = .ok (.iload_n 1, 1) := by decide +kernel
theorem d12_49 : decode (mB m12) 49 = .ok (.iload 4, 2) := by decide +kernel
theorem d12_51 : decode (mB m12) 51 = .ok (.aload_n 0, 1) := by decide +kernel
theorem d12_52 : decode (mB m12) 52 = .ok (.getfield 20, 3) := by decide +kernel
theorem d12_55 : decode (mB m12) 55 = .ok (.iload_n 1, 1) := by decide +kernel
theorem d12_56 : decode (mB m12) 56 = .ok (.iaload, 1) := by decide +kernel
theorem d12_57 : decode (mB m12) 57 = .ok (.iconst (-1), 1) := by decide +kernel
theorem d12_58 : decode (mB m12) 58 = .ok (.ixor, 1) := by decide +kernel
theorem d12_59 : decode (mB m12) 59 = .ok (.iand, 1) := by decide +kernel
theorem d12_60 : decode (mB m12) 60 = .ok (.iastore, 1) := by decide +kernel
theorem d12_61 : decode (mB m12) 61 = .ok (.aload_n 0, 1) := by decide +kernel
theorem d12_62 : decode (mB m12) 62 = .ok (.invokevirtual 111, 3) := by decide +kernel
theorem d12_65 : decode (mB m12) 65 = .ok (.return_, 1) := by decide +kernel
theorem d13_0 : decode (mB m13) 0 = .ok (.iload_n 1, 1) := by decide +kernel
theorem d13_1 : decode (mB m13) 1 = .ok (.iload_n 1, 1) := by decide +kernel
theorem d13_2 : decode (mB m13) 2 = .ok (.iconst 1, 1) := by decide +kernel
theorem d13_3 : decode (mB m13) 3 = .ok (.iushr, 1) := by decide +kernel
theorem d13_4 : decode (mB m13) 4 = .ok (.ldc 148, 2) := by decide +kernel
theorem d13_6 : decode (mB m13) 6 = .ok (.iand, 1) := by decide +kernel
theorem d13_7 : decode (mB m13) 7 = .ok (.isub, 1) := by decide +kernel
theorem d13_8 : decode (mB m13) 8 = .ok (.istore_n 2, 1) := by decide +kernel
theorem d13_9 : decode (mB m13) 9 = .ok (.iload_n 2, 1) := by decide +kernel
theorem d13_10 : decode (mB m13) 10 = .ok (.ldc 149, 2) := by decide +kernel
theorem d13_12 : decode (mB m13) 12 = .ok (.iand, 1) := by decide +kernel
theorem d13_13 : decode (mB m13) 13 = .ok (.iload_n 2, 1) := by decide +kernel
theorem d13_14 : decode (mB m13) 14 = .ok (.iconst 2, 1) := by decide +kernel
theorem d13_15 : decode (mB m13) 15 = .ok (.iushr, 1) := by decide +kernel
theorem d13_16 : decode (mB m13) 16 = .ok (.ldc 149, 2) := by decide +kernel
theorem d13_18 : decode (mB m13) 18 = .ok (.iand, 1) := by decide +kernel
theorem d13_19 : decode (mB m13) 19 = .ok (.iadd, 1) := by decide +kernel
theorem d13_20 : decode (mB m13) 20 = .ok (.istore_n 2, 1) := by decide +kernel
theorem d13_21 : decode (mB m13) 21 = .ok (.iload_n 2, 1) := by decide +kernel
theorem d13_22 : decode (mB m13) 22 = .ok (.iload_n 2, 1) := by decide +kernel
theorem d13_23 : decode (mB m13) 23 = .ok (.iconst 4, 1) := by decide +kernel
theorem d13_24 : decode (mB m13) 24 = .ok (.iushr, 1) := by decide +kernel
theorem d13_25 : decode (mB m13) 25 = .ok (.iadd, 1) := by decide +kernel
theorem d13_26 : decode (mB m13) 26 = .ok (.ldc 150, 2) := by decide +kernel
theorem d13_28 : decode (mB m13) 28 = .ok (.iand, 1) := by decide +kernel
theorem d13_29 : decode (mB m13) 29 = .ok (.istore_n 2, 1) := by decide +kernel
theorem d13_30 : decode (mB m13) 30 = .ok (.iload_n 2, 1) := by decide +kernel
theorem d13_31 : decode (mB m13) 31 = .ok (.ldc 151, 2) := by decide +kernel
theorem d13_33 : decode (mB m13) 33 = .ok (.imul, 1) := by decide +kernel
theorem d13_34 : decode (mB m13) 34 = .ok (.bipush 24, 2) := by decide +kernel
theorem d13_36 : decode (mB m13) 36 = .ok (.iushr, 1) := by decide +kernel
theorem d13_37 : decode (mB m13) 37 = .ok (.ireturn, 1) := by decide +kernel
theorem d14_0 : decode (mB m14) 0 = .ok (.iconst 0, 1) := by decide +kernel
theorem d14_1 : decode (mB m14) 1 = .ok (.istore_n 1, 1) := by decide +kernel
theorem d14_2 : decode (mB m14) 2 = .ok (.iconst 0, 1) := by decide +kernel
theorem d14_3 : decode (mB m14) 3 = .ok (.istore_n 2, 1) := by decide +kernel
theorem d14_4 : decode (mB m14) 4 = .ok (.iload_n 2, 1) := by decide +kernel
theorem d14_5 : decode (mB m14) 5 = .ok (.aload_n 0, 1) := by decide +kernel
theorem d14_6 : decode (mB m14) 6 = .ok (.getfield 44, 3) := by decide +kernel
theorem d14_9 : decode (mB m14) 9 = .ok (.if_icmp .ge 31, 3) := by decide +kernel
theorem d14_12 : decode (mB m14) 12 = .ok (.iload_n 1, 1) := by decide +kernel
theorem d14_13 : decode (mB m14) 13 = .ok (.aload_n 0, 1) := by decide +kernel
theorem d14_14 : decode (mB m14) 14 = .ok (.aload_n 0, 1) := by decide +kernel
theorem d14_15 : decode (mB m14) 15 = .ok (.getfield 20, 3) := by decide +kernel
theorem d14_18 : decode (mB m14) 18 = .ok (.iload_n 2, 1) := by decide +kernel
theorem d14_19 : decode (mB m14) 19 = .ok (.iaload, 1) := by decide +kernel
theorem d14_20 : decode (mB m14) 20 = .ok (.aload_n 0, 1) := by decide +kernel
theorem d14_21 : decode (mB m14) 21 = .ok (.getfield 23, 3) := by decide +kernel
theorem d14_24 : decode (mB m14) 24 = .ok (.iload_n 2, 1) := by decide +kernel
theorem d14_25 : decode (mB m14) 25 = .ok (.iaload, 1) := by decide +kernel
theorem d14_26 : decode (mB m14) 26 = .ok (.iconst (-1), 1) := by decide +kernel
theorem d14_27 : decode (mB m14) 27 = .ok (.ixor, 1) := by decide +kernel
theorem d14_28 : decode (mB m14) 28 = .ok (.iand, 1) := by decide +kernel
theorem d14_29 : decode (mB m14) 29 = .ok (.invokevirtual 101, 3) := by decide +kernel
theorem d14_32 : decode (mB m14) 32 = .ok (.iadd, 1) := by decide +kernel
theorem d14_33 : decode (mB m14) 33 = .ok (.istore_n 1, 1) := by decide +kernel
theorem d14_34 : decode (mB m14) 34 = .ok (.iinc 2 1, 3) := by decide +kernel
theorem d14_37 : decode (mB m14) 37 = .ok (.goto (-33), 3) := by decide +kernel
theorem d14_40 : decode (mB m14) 40 = .ok (.iload_n 1, 1) := by decide +kernel
theorem d14_41 : decode (mB m14) 41 = .ok (.ireturn, 1) := by decide +kernel
theorem d15_0 : decode (mB m15) 0 = .ok (.aload_n 0, 1) := by decide +kernel
theorem d15_1 : decode (mB m15) 1 = .ok (.iload_n 1, 1) := by decide +kernel
theorem d15_2 : decode (mB m15) 2 = .ok (.invokevirtual 65, 3) := by decide +kernel
theorem d15_5 : decode (mB m15) 5 = .ok (.ifCond .eq 11, 3) := by decide +kernel
theorem d15_8 : decode (mB m15) 8 = .ok (.aload_n 0, 1) := by decide +kernel
theorem d15_9 : decode (mB m15) 9 = .ok (.iload_n 2, 1) := by decide +kernel
theorem d15_10 : decode (mB m15) 10 = .ok (.invokevirtual 65, 3) := by decide +kernel
theorem d15_13 : decode (mB m15) 13 = .ok (.ifCond .ne 5, 3) := by decide +kernel
theorem d15_16 : decode (mB m15) 16 = .ok (.iconst (-1), 1) := by decide +kernel
theorem d15_17 : decode (mB m15) 17 = .ok (.ireturn, 1) := by decide +kernel
theorem d15_18 : decode (mB m15) 18 = .ok (.aload_n 0, 1) := by decide +kernel
theorem d15_19 : decode (mB m15) 19 = .ok (.iload_n 1, 1) := by decide +kernel
theorem d15_20 : decode (mB m15) 20 = .ok (.iload_n 2, 1) := by decide +kernel
theorem d15_21 : decode (mB m15) 21 = .ok (.invokevirtual 69, 3) := by decide +kernel
theorem d15_24 : decode (mB m15) 24 = .ok (.ifCond .eq 6, 3) := by decide +kernel
theorem d15_27 : decode (mB m15) 27 = .ok (.bipush (-2), 2) := by decide +kernel
theorem d15_29 : decode (mB m15) 29 = .ok (.ireturn, 1) := by decide +kernel
theorem d15_30 : decode (mB m15) 30 = .ok (.aload_n 0, 1) := by decide +kernel
theorem d15_31 : decode (mB m15) 31 = .ok (.getfield 53, 3) := by decide +kernel
theorem d15_34 : decode (mB m15) 34 = .ok (.aload_n 0, 1) := by decide +kernel
theorem d15_35 : decode (mB m15) 35 = .ok (.getfield 47, 3) := by decide +kernel
theorem d15_38 : decode (mB m15) 38 = .ok (.if_icmp .ne 6, 3) := by decide +kernel
theorem d15_41 : decode (mB m15) 41 = .ok (.bipush (-4), 2) := by decide +kernel
theorem d15_43 : decode (mB m15) 43 = .ok (.ireturn, 1) := by decide +kernel
theorem d15_44 : decode (mB m15) 44 = .ok (.aload_n 0, 1) := by decide +kernel
theorem d15_45 : decode (mB m15) 45 = .ok (.invokevirtual 73, 3) := by decide +kernel
theorem d15_48 : decode (mB m15) 48 = .ok (.aload_n 0, 1) := by decide +kernel
theorem d15_49 : decode (mB m15) 49 = .ok (.iload_n 1, 1) := by decide +kernel
theorem d15_50 : decode (mB m15) 50 = .ok (.iload_n 2, 1) := by decide +kernel
theorem d15_51 : decode (mB m15) 51 = .ok (.invokevirtual 76, 3) := by decide +kernel
theorem d15_54 : decode (mB m15) 54 = .ok (.aload_n 0, 1) := by decide +kernel
theorem d15_55 : decode (mB m15) 55 = .ok (.aload_n 0, 1) := by decide +kernel
theorem d15_56 : decode (mB m15) 56 = .ok (.invokevirtual 80, 3) := by decide +kernel
theorem d15_59 : decode (mB m15) 59 = .ok (.putfield 59, 3) := by decide +kernel
theorem d15_62 : decode (mB m15) 62 = .ok (.aload_n 0, 1) := by decide +kernel
theorem d15_63 : decode (mB m15) 63 = .ok (.iconst 0, 1) := by decide +kernel
theorem d15_64 : decode (mB m15) 64 = .ok (.putfield 62, 3) := by decide +kernel
theorem d15_67 : decode (mB m15) 67 = .ok (.aload_n 0, 1) := by decide +kernel
theorem d15_68 : decode (mB m15) 68 = .ok (.getfield 59, 3) := by decide +kernel
theorem d15_71 : decode (mB m15) 71 = .ok (.ireturn, 1) := by decide +kernel
theorem d16_0 : decode (mB m16) 0 = .ok (.iconst 0, 1) := by decide +kernel
theorem d16_1 : decode (mB m16) 1 = .ok (.istore_n 2, 1) := by decide +kernel
theorem d16_2 : decode (mB m16) 2 = .ok (.iconst 0, 1) := by decide +kernel
theorem d16_3 : decode (mB m16) 3 = .ok (.istore_n 3, 1) := by decide +kernel
theorem d16_4 : decode (mB m16) 4 = .ok (.iload_n 3, 1) := by decide +kernel
theorem d16_5 : decode (mB m16) 5 = .ok (.iconst 3, 1) := by decide +kernel
theorem d16_6 : decode (mB m16) 6 = .ok (.if_icmp .ge 73, 3) := by decide +kernel
theorem d16_9 : decode (mB m16) 9 = .ok (.iconst 0, 1) := by decide +kernel
theorem d16_10 : decode (mB m16) 10 = .ok (.istore 4, 2) := by decide +kernel
theorem d16_12 : decode (mB m16) 12 = .ok (.iload 4, 2) := by decide +kernel
theorem d16_14 : decode (mB m16) 14 = .ok (.iconst 3, 1) := by decide +kernel
theorem d16_15 : decode (mB m16) 15 = .ok (.if_icmp .ge 58, 3) := by decide +kernel
theorem d16_18 : decode (mB m16) 18 = .ok (.iconst 0, 1) := by decide +kernel
theorem d16_19 : decode (mB m16) 19 = .ok (.istore 5, 2) := by decide +kernel
theorem d16_21 : decode (mB m16) 21 = .ok (.iload 5, 2) := by decide +kernel
theorem d16_23 : decode (mB m16) 23 = .ok (.iconst 3, 1) := by decide +kernel
theorem d16_24 : decode (mB m16) 24 = .ok (.if_icmp .ge 43, 3) := by decide +kernel
theorem d16_27 : decode (mB m16) 27 = .ok (.iload_n 0, 1) := by decide +kernel
theorem d16_28 : decode (mB m16) 28 = .ok (.iload_n 3, 1) := by decide +kernel
theorem d16_29 : decode (mB m16) 29 = .ok (.iload 5, 2) := by decide +kernel
theorem d16_31 : decode (mB m16) 31 = .ok (.invokestatic 7, 3) := by decide +kernel
theorem d16_34 : decode (mB m16) 34 = .ok (.iconst 1, 1) := by decide +kernel
theorem d16_35 : decode (mB m16) 35 = .ok (.if_icmp .ne 26, 3) := by decide +kernel
theorem d16_38 : decode (mB m16) 38 = .ok (.iload_n 1, 1) := by decide +kernel
theorem d16_39 : decode (mB m16) 39 = .ok (.iload 5, 2) := by decide +kernel
theorem d16_41 : decode (mB m16) 41 = .ok (.iload 4, 2) := by decide +kernel
theorem d16_43 : decode (mB m16) 43 = .ok (.invokestatic 7, 3) := by decide +kernel
theorem d16_46 : decode (mB m16) 46 = .ok (.iconst 1, 1) := by decide +kernel
theorem d16_47 : decode (mB m16) 47 = .ok (.if_icmp .ne 14, 3) := by decide +kernel
theorem d16_50 : decode (mB m16) 50 = .ok (.iload_n 2, 1) := by decide +kernel
theorem d16_51 : decode (mB m16) 51 = .ok (.iconst 1, 1) := by decide +kernel
theorem d16_52 : decode (mB m16) 52 = .ok (.iload_n 3, 1) := by decide +kernel
theorem d16_53 : decode (mB m16) 53 = .ok (.iconst 3, 1) := by decide +kernel
theorem d16_54 : decode (mB m16) 54 = .ok (.imul, 1) := by decide +kernel
theorem d16_55 : decode (mB m16) 55 = .ok (.iload 4, 2) := by decide +kernel
theorem d16_57 : decode (mB m16) 57 = .ok (.iadd, 1) := by decide +kernel
theorem d16_58 : decode (mB m16) 58 = .ok (.ishl, 1) := by decide +kernel
theorem d16_59 : decode (mB m16) 59 = .ok (.ior, 1) := by decide +kernel
theorem d16_60 : decode (mB m16) 60 = .ok (.istore_n 2, 1) := by decide +kernel
theorem d16_61 : decode (mB m16) 61 = .ok (.iinc 5 1, 3) := by decide +kernel
theorem d16_64 : decode (mB m16) 64 = .ok (.goto (-43), 3) := by decide +kernel
theorem d16_67 : decode (mB m16) 67 = .ok (.iinc 4 1, 3) := by decide +kernel
theorem d16_70 : decode (mB m16) 70 = .ok (.goto (-58), 3) := by decide +kernel
theorem d16_73 : decode (mB m16) 73 = .ok (.iinc 3 1, 3) := by decide +kernel
theorem d16_76 : decode (mB m16) 76 = .ok (.goto (-72), 3) := by decide +kernel
theorem d16_79 : decode (mB m16) 79 = .ok (.iload_n 2, 1) := by decide +kernel
theorem d16_80 : decode (mB m16) 80 = .ok (.ireturn, 1) := by decide +kernel
theorem d17_0 : decode (mB m17) 0 = .ok (.iload_n 1, 1) := by decide +kernel
theorem d17_1 : decode (mB m17) 1 = .ok (.iload_n 2, 1) := by decide +kernel
theorem d17_2 : decode (mB m17) 2 = .ok (.iushr, 1) := by decide +kernel
theorem d17_3 : decode (mB m17) 3 = .ok (.iconst 1, 1) := by decide +kernel
theorem d17_4 : decode (mB m17) 4 = .ok (.iand, 1) := by decide +kernel
theorem d17_5 : decode (mB m17) 5 = .ok (.ifCond .eq 7, 3) := by decide +kernel
theorem d17_8 : decode (mB m17) 8 = .ok (.iconst 1, 1) := by decide +kernel
theorem d17_9 : decode (mB m17) 9 = .ok (.goto 4, 3) := by decide +kernel
theorem d17_12 : decode (mB m17) 12 = .ok (.iconst 0, 1) := by decide +kernel
theorem d17_13 : decode (mB m17) 13 = .ok (.ireturn, 1) := by decide +kernel
theorem d18_0 : decode (mB m18) 0 = .ok (.aload_n 0, 1) := by decide +kernel
theorem d18_1 : decode (mB m18) 1 = .ok (.iload_n 1, 1) := by decide +kernel
theorem d18_2 : decode (mB m18) 2 = .ok (.invokevirtual 65, 3) := by decide +kernel
theorem d18_5 : decode (mB m18) 5 = .ok (.ifCond .eq 11, 3) := by decide +kernel
theorem d18_8 : decode (mB m18) 8 = .ok (.aload_n 0, 1) := by decide +kernel
theorem d18_9 : decode (mB m18) 9 = .ok (.iload_n 2, 1) := by decide +kernel
theorem d18_10 : decode (mB m18) 10 = .ok (.invokevirtual 65, 3) := by decide +kernel
theorem d18_13 : decode (mB m18) 13 = .ok (.ifCond .ne 5, 3) := by decide +kernel
theorem d18_16 : decode (mB m18) 16 = .ok (.iconst 0, 1) := by decide +kernel
theorem d18_17 : decode (mB m18) 17 = .ok (.ireturn, 1) := by decide +kernel
theorem d18_18 : decode (mB m18) 18 = .ok (.aload_n 0, 1) := by decide +kernel
theorem d18_19 : decode (mB m18) 19 = .ok (.aload_n 0, 1) := by decide +kernel
theorem d18_20 : decode (mB m18) 20 = .ok (.getfield 20, 3) := by decide +kernel
theorem d18_23 : decode (mB m18) 23 = .ok (.iload_n 1, 1) := by decide +kernel
theorem d18_24 : decode (mB m18) 24 = .ok (.iaload, 1) := by decide +kernel
theorem d18_25 : decode (mB m18) 25 = .ok (.iload_n 2, 1) := by decide +kernel
theorem d18_26 : decode (mB m18) 26 = .ok (.invokevirtual 98, 3) := by decide +kernel
theorem d18_29 : decode (mB m18) 29 = .ok (.ireturn, 1) := by decide +kernel
theorem d19_0 : decode (mB m19) 0 = .ok (.aload_n 0, 1) := by decide +kernel
theorem d19_1 : decode (mB m19) 1 = .ok (.iload_n 1, 1) := by decide +kernel
theorem d19_2 : decode (mB m19) 2 = .ok (.invokevirtual 65, 3) := by decide +kernel
theorem d19_5 : decode (mB m19) 5 = .ok (.ifCond .eq 11, 3) := by decide +kernel
theorem d19_8 : decode (mB m19) 8 = .ok (.aload_n 0, 1) := by decide +kernel
theorem d19_9 : decode (mB m19) 9 = .ok (.iload_n 2, 1) := by decide +kernel
theorem d19_10 : decode (mB m19) 10 = .ok (.invokevirtual 65, 3) := by decide +kernel
theorem d19_13 : decode (mB m19) 13 = .ok (.ifCond .ne 5, 3) := by decide +kernel
theorem d19_16 : decode (mB m19) 16 = .ok (.iconst (-1), 1) := by decide +kernel
theorem d19_17 : decode (mB m19) 17 = .ok (.ireturn, 1) := by decide +kernel
theorem d19_18 : decode (mB m19) 18 = .ok (.aload_n 0, 1) := by decide +kernel
theorem d19_19 : decode (mB m19) 19 = .ok (.getfield 16, 3) := by decide +kernel
theorem d19_22 : decode (mB m19) 22 = .ok (.iload_n 1, 1) := by decide +kernel
theorem d19_23 : decode (mB m19) 23 = .ok (.iaload, 1) := by decide +kernel
theorem d19_24 : decode (mB m19) 24 = .ok (.istore_n 3, 1) := by decide +kernel
theorem d19_25 : decode (mB m19) 25 = .ok (.iconst 0, 1) := by decide +kernel
theorem d19_26 : decode (mB m19) 26 = .ok (.istore 4, 2) := by decide +kernel
theorem d19_28 : decode (mB m19) 28 = .ok (.aload_n 0, 1) := by decide +kernel
theorem d19_29 : decode (mB m19) 29 = .ok (.iload_n 3, 1) := by decide +kernel
theorem d19_30 : decode (mB m19) 30 = .ok (.iload_n 2, 1) := by decide +kernel
theorem d19_31 : decode (mB m19) 31 = .ok (.invokevirtual 98, 3) := by decide +kernel
theorem d19_34 : decode (mB m19) 34 = .ok (.ifCond .eq 6, 3) := by decide +kernel
theorem d19_37 : decode (mB m19) 37 = .ok (.iconst 1, 1) := by decide +kernel
theorem d19_38 : decode (mB m19) 38 = .ok (.istore 4, 2) := by decide +kernel
theorem d19_40 : decode (mB m19) 40 = .ok (.iconst 0, 1) := by decide +kernel
theorem d19_41 : decode (mB m19) 41 = .ok (.istore 5, 2) := by decide +kernel
theorem d19_43 : decode (mB m19) 43 = .ok (.iload 5, 2) := by decide +kernel
theorem d19_45 : decode (mB m19) 45 = .ok (.aload_n 0, 1) := by decide +kernel
theorem d19_46 : decode (mB m19) 46 = .ok (.getfield 44, 3) := by decide +kernel
theorem d19_49 : decode (mB m19) 49 = .ok (.if_icmp .ge 35, 3) := by decide +kernel
theorem d19_52 : decode (mB m19) 52 = .ok (.iload_n 3, 1) := by decide +kernel
theorem d19_53 : decode (mB m19) 53 = .ok (.iload 5, 2) := by decide +kernel
theorem d19_55 : decode (mB m19) 55 = .ok (.iushr, 1) := by decide +kernel
theorem d19_56 : decode (mB m19) 56 = .ok (.iconst 1, 1) := by decide +kernel
theorem d19_57 : decode (mB m19) 57 = .ok (.iand, 1) := by decide +kernel
theorem d19_58 : decode (mB m19) 58 = .ok (.ifCond .eq 20, 3) := by decide +kernel
theorem d19_61 : decode (mB m19) 61 = .ok (.aload_n 0, 1) := by decide +kernel
theorem d19_62 : decode (mB m19) 62 = .ok (.getfield 20, 3) := by decide +kernel
theorem d19_65 : decode (mB m19) 65 = .ok (.iload 5, 2) := by decide +kernel
theorem d19_67 : decode (mB m19) 67 = .ok (.iaload, 1) := by decide +kernel
theorem d19_68 : decode (mB m19) 68 = .ok (.iload_n 2, 1) := by decide +kernel
theorem d19_69 : decode (mB m19) 69 = .ok (.iushr, 1) := by decide +kernel
theorem d19_70 : decode (mB m19) 70 = .ok (.iconst 1, 1) := by decide +kernel
theorem d19_71 : decode (mB m19) 71 = .ok (.iand, 1) := by decide +kernel
theorem d19_72 : decode (mB m19) 72 = .ok (.ifCond .eq 6, 3) := by decide +kernel
theorem d19_75 : decode (mB m19) 75 = .ok (.iinc 4 1, 3) := by decide +kernel
theorem d19_78 : decode (mB m19) 78 = .ok (.iinc 5 1, 3) := by decide +kernel
theorem d19_81 : decode (mB m19) 81 = .ok (.goto (-38), 3) := by decide +kernel
theorem d19_84 : decode (mB m19) 84 = .ok (.iload 4, 2) := by decide +kernel
theorem d19_86 : decode (mB m19) 86 = .ok (.ireturn, 1) := by decide +kernel
theorem d20_0 : decode (mB m20) 0 = .ok (.iconst 0, 1) := by decide +kernel
theorem d20_1 : decode (mB m20) 1 = .ok (.istore_n 1, 1) := by decide +kernel
theorem d20_2 : decode (mB m20) 2 = .ok (.iconst 0, 1) := by decide +kernel
theorem d20_3 : decode (mB m20) 3 = .ok (.istore_n 2, 1) := by decide +kernel
theorem d20_4 : decode (mB m20) 4 = .ok (.iload_n 2, 1) := by decide +kernel
theorem d20_5 : decode (mB m20) 5 = .ok (.aload_n 0, 1) := by decide +kernel
theorem d20_6 : decode (mB m20) 6 = .ok (.getfield 44, 3) := by decide +kernel
theorem d20_9 : decode (mB m20) 9 = .ok (.if_icmp .ge 22, 3) := by decide +kernel
theorem d20_12 : decode (mB m20) 12 = .ok (.iload_n 1, 1) := by decide +kernel
theorem d20_13 : decode (mB m20) 13 = .ok (.aload_n 0, 1) := by decide +kernel
theorem d20_14 : decode (mB m20) 14 = .ok (.aload_n 0, 1) := by decide +kernel
theorem d20_15 : decode (mB m20) 15 = .ok (.getfield 20, 3) := by decide +kernel
theorem d20_18 : decode (mB m20) 18 = .ok (.iload_n 2, 1) := by decide +kernel
theorem d20_19 : decode (mB m20) 19 = .ok (.iaload, 1) := by decide +kernel
theorem d20_20 : decode (mB m20) 20 = .ok (.invokevirtual 101, 3) := by decide +kernel
theorem d20_23 : decode (mB m20) 23 = .ok (.iadd, 1) := by decide +kernel
theorem d20_24 : decode (mB m20) 24 = .ok (.istore_n 1, 1) := by decide +kernel
theorem d20_25 : decode (mB m20) 25 = .ok (.iinc 2 1, 3) := by decide +kernel
theorem d20_28 : decode (mB m20) 28 = .ok (.goto (-24), 3) := by decide +kernel
theorem d20_31 : decode (mB m20) 31 = .ok (.iload_n 1, 1) := by decide +kernel
theorem d20_32 : decode (mB m20) 32 = .ok (.ireturn, 1) := by decide +kernel
theorem d21_0 : decode (mB m21) 0 = .ok (.aload_n 0, 1) := by decide +kernel
theorem d21_1 : decode (mB m21) 1 = .ok (.getfield 53, 3) := by decide +kernel
theorem d21_4 : decode (mB m21) 4 = .ok (.ireturn, 1) := by decide +kernel
theorem d22_0 : decode (mB m22) 0 = .ok (.iload_n 0, 1) := by decide +kernel
theorem d22_1 : decode (mB m22) 1 = .ok (.sipush 511, 3) := by decide +kernel
theorem d22_4 : decode (mB m22) 4 = .ok (.iand, 1) := by decide +kernel
theorem d22_5 : decode (mB m22) 5 = .ok (.istore_n 1, 1) := by decide +kernel
theorem d22_6 : decode (mB m22) 6 = .ok (.new 13, 3) := by decide +kernel
theorem d22_9 : decode (mB m22) 9 = .ok (.dup, 1) := by decide +kernel
theorem d22_10 : decode (mB m22) 10 = .ok (.iconst 3, 1) := by decide +kernel
theorem d22_11 : decode (mB m22) 11 = .ok (.bipush 9, 2) := by decide +kernel
theorem d22_13 : decode (mB m22) 13 = .ok (.invokespecial 15, 3) := by decide +kernel
theorem d22_16 : decode (mB m22) 16 = .ok (.astore_n 2, 1) := by decide +kernel
theorem d22_17 : decode (mB m22) 17 = .ok (.iconst 0, 1) := by decide +kernel
theorem d22_18 : decode (mB m22) 18 = .ok (.istore_n 3, 1) := by decide +kernel
theorem d22_19 : decode (mB m22) 19 = .ok (.iconst 0, 1) := by decide +kernel
theorem d22_20 : decode (mB m22) 20 = .ok (.istore 4, 2) := by decide +kernel
theorem d22_22 : decode (mB m22) 22 = .ok (.iconst 0, 1) := by decide +kernel
theorem d22_23 : decode (mB m22) 23 = .ok (.istore 5, 2) := by decide +kernel
theorem d22_25 : decode (mB m22) 25 = .ok (.iload 5, 2) := by decide +kernel
theorem d22_27 : decode (mB m22) 27 = .ok (.iconst 3, 1) := by decide +kernel
theorem d22_28 : decode (mB m22) 28 = .ok (.if_icmp .ge 61, 3) := by decide +kernel
theorem d22_31 : decode (mB m22) 31 = .ok (.iconst 0, 1) := by decide +kernel
theorem d22_32 : decode (mB m22) 32 = .ok (.istore 6, 2) := by decide +kernel
theorem d22_34 : decode (mB m22) 34 = .ok (.iload 6, 2) := by decide +kernel
theorem d22_36 : decode (mB m22) 36 = .ok (.iconst 3, 1) := by decide +kernel
theorem d22_37 : decode (mB m22) 37 = .ok (.if_icmp .ge 46, 3) := by decide +kernel
theorem d22_40 : decode (mB m22) 40 = .ok (.iload_n 1, 1) := by decide +kernel
theorem d22_41 : decode (mB m22) 41 = .ok (.iload 5, 2) := by decide +kernel
theorem d22_43 : decode (mB m22) 43 = .ok (.iload 6, 2) := by decide +kernel
theorem d22_45 : decode (mB m22) 45 = .ok (.invokestatic 7, 3) := by decide +kernel
theorem d22_48 : decode (mB m22) 48 = .ok (.iconst 1, 1) := by decide +kernel
theorem d22_49 : decode (mB m22) 49 = .ok (.if_icmp .ne 28, 3) := by decide +kernel
theorem d22_52 : decode (mB m22) 52 = .ok (.aload_n 2, 1) := by decide +kernel
theorem d22_53 : decode (mB m22) 53 = .ok (.iload 5, 2) := by decide +kernel
theorem d22_55 : decode (mB m22) 55 = .ok (.iload 6, 2) := by decide +kernel
theorem d22_57 : decode (mB m22) 57 = .ok (.invokevirtual 18, 3) := by decide +kernel
theorem d22_60 : decode (mB m22) 60 = .ok (.istore 7, 2) := by decide +kernel
theorem d22_62 : decode (mB m22) 62 = .ok (.iload 7, 2) := by decide +kernel
theorem d22_64 : decode (mB m22) 64 = .ok (.ifCond .ge 5, 3) := by decide +kernel
theorem d22_67 : decode (mB m22) 67 = .ok (.iconst 0, 1) := by decide +kernel
theorem d22_68 : decode (mB m22) 68 = .ok (.ireturn, 1) := by decide +kernel
theorem d22_69 : decode (mB m22) 69 = .ok (.iload_n 3, 1) := by decide +kernel
theorem d22_70 : decode (mB m22) 70 = .ok (.iload 7, 2) := by decide +kernel
theorem d22_72 : decode (mB m22) 72 = .ok (.iadd, 1) := by decide +kernel
theorem d22_73 : decode (mB m22) 73 = .ok (.istore_n 3, 1) := by decide +kernel
theorem d22_74 : decode (mB m22) 74 = .ok (.iinc 4 1, 3) := by decide +kernel
theorem d22_77 : decode (mB m22) 77 = .ok (.iinc 6 1, 3) := by decide +kernel
theorem d22_80 : decode (mB m22) 80 = .ok (.goto (-46), 3) := by decide +kernel
theorem d22_83 : decode (mB m22) 83 = .ok (.iinc 5 1, 3) := by decide +kernel
theorem d22_86 : decode (mB m22) 86 = .ok (.goto (-61), 3) := by decide +kernel
theorem d22_89 : decode (mB m22) 89 = .ok (.iload_n 1, 1) := by decide +kernel
theorem d22_90 : decode (mB m22) 90 = .ok (.istore 5, 2) := by decide +kernel
theorem d22_92 : decode (mB m22) 92 = .ok (.iconst 0, 1) := by decide +kernel
theorem d22_93 : decode (mB m22) 93 = .ok (.istore 6, 2) := by decide +kernel
theorem d22_95 : decode (mB m22) 95 = .ok (.iload 6, 2) := by decide +kernel
theorem d22_97 : decode (mB m22) 97 = .ok (.iconst 3, 1) := by decide +kernel
theorem d22_98 : decode (mB m22) 98 = .ok (.if_icmp .ge 19, 3) := by decide +kernel
theorem d22_101 : decode (mB m22) 101 = .ok (.iload_n 1, 1) := by decide +kernel
theorem d22_102 : decode (mB m22) 102 = .ok (.iload_n 1, 1) := by decide +kernel
theorem d22_103 : decode (mB m22) 103 = .ok (.iload 5, 2) := by decide +kernel
theorem d22_105 : decode (mB m22) 105 = .ok (.invokestatic 22, 3) := by decide +kernel
theorem d22_108 : decode (mB m22) 108 = .ok (.ior, 1) := by decide +kernel
theorem d22_109 : decode (mB m22) 109 = .ok (.istore 5, 2) := by decide +kernel
theorem d22_111 : decode (mB m22) 111 = .ok (.iinc 6 1, 3) := by decide +kernel
theorem d22_114 : decode (mB m22) 114 = .ok (.goto (-19), 3) := by decide +kernel
theorem d22_117 : decode (mB m22) 117 = .ok (.iconst 0, 1) := by decide +kernel
theorem d22_118 : decode (mB m22) 118 = .ok (.istore 6, 2) := by decide +kernel
theorem d22_120 : decode (mB m22) 120 = .ok (.iconst 0, 1) := by decide +kernel
theorem d22_121 : decode (mB m22) 121 = .ok (.istore 7, 2) := by decide +kernel
theorem d22_123 : decode (mB m22) 123 = .ok (.iload 7, 2) := by decide +kernel
theorem d22_125 : decode (mB m22) 125 = .ok (.iconst 3, 1) := by decide +kernel
theorem d22_126 : decode (mB m22) 126 = .ok (.if_icmp .ge 129, 3) := by decide +kernel
theorem d22_129 : decode (mB m22) 129 = .ok (.iconst 0, 1) := by decide +kernel
theorem d22_130 : decode (mB m22) 130 = .ok (.istore 8, 2) := by decide +kernel
theorem d22_132 : decode (mB m22) 132 = .ok (.iload 8, 2) := by decide +kernel
theorem d22_134 : decode (mB m22) 134 = .ok (.iconst 3, 1) := by decide +kernel
theorem d22_135 : decode (mB m22) 135 = .ok (.if_icmp .ge 114, 3) := by decide +kernel
theorem d22_138 : decode (mB m22) 138 = .ok (.iload 5, 2) := by decide +kernel
theorem d22_140 : decode (mB m22) 140 = .ok (.iload 7, 2) := by decide +kernel
theorem d22_142 : decode (mB m22) 142 = .ok (.iload 8, 2) := by decide +kernel
theorem d22_144 : decode (mB m22) 144 = .ok (.invokestatic 7, 3) := by decide +kernel
theorem d22_147 : decode (mB m22) 147 = .ok (.istore 9, 2) := by decide +kernel
theorem d22_149 : decode (mB m22) 149 = .ok (.iload 6, 2) := by decide +kernel
theorem d22_151 : decode (mB m22) 151 = .ok (.iload 9, 2) := by decide +kernel
theorem d22_153 : decode (mB m22) 153 = .ok (.iadd, 1) := by decide +kernel
theorem d22_154 : decode (mB m22) 154 = .ok (.istore 6, 2) := by decide +kernel
theorem d22_156 : decode (mB m22) 156 = .ok (.aload_n 2, 1) := by decide +kernel
theorem d22_157 : decode (mB m22) 157 = .ok (.iload 7, 2) := by decide +kernel
theorem d22_159 : decode (mB m22) 159 = .ok (.iload 8, 2) := by decide +kernel
theorem d22_161 : decode (mB m22) 161 = .ok (.invokevirtual 25, 3) := by decide +kernel
theorem d22_164 : decode (mB m22) 164 = .ok (.iload 9, 2) := by decide +kernel
theorem d22_166 : decode (mB m22) 166 = .ok (.iconst 1, 1) := by decide +kernel
theorem d22_167 : decode (mB m22) 167 = .ok (.if_icmp .ne 7, 3) := by decide +kernel
theorem d22_170 : decode (mB m22) 170 = .ok (.iconst 1, 1) := by decide +kernel
theorem d22_171 : decode (mB m22) 171 = .ok (.goto 4, 3) := by decide +kernel
theorem d22_174 : decode (mB m22) 174 = .ok (.iconst 0, 1) := by decide +kernel
theorem d22_175 : decode (mB m22) 175 = .ok (.if_icmp .eq 5, 3) := by decide +kernel
theorem d22_178 : decode (mB m22) 178 = .ok (.iconst 0, 1) := by decide +kernel
theorem d22_179 : decode (mB m22) 179 = .ok (.ireturn, 1) := by decide +kernel
theorem d22_180 : decode (mB m22) 180 = .ok (.iload_n 1, 1) := by decide +kernel
theorem d22_181 : decode (mB m22) 181 = .ok (.iload 7, 2) := by decide +kernel
theorem d22_183 : decode (mB m22) 183 = .ok (.iload 8, 2) := by decide +kernel
theorem d22_185 : decode (mB m22) 185 = .ok (.invokestatic 7, 3) := by decide +kernel
theorem d22_188 : decode (mB m22) 188 = .ok (.istore 10, 2) := by decide +kernel
theorem d22_190 : decode (mB m22) 190 = .ok (.iconst 0, 1) := by decide +kernel
theorem d22_191 : decode (mB m22) 191 = .ok (.istore 11, 2) := by decide +kernel
theorem d22_193 : decode (mB m22) 193 = .ok (.iload 11, 2) := by decide +kernel
theorem d22_195 : decode (mB m22) 195 = .ok (.iconst 3, 1) := by decide +kernel
theorem d22_196 : decode (mB m22) 196 = .ok (.if_icmp .ge 32, 3) := by decide +kernel
theorem d22_199 : decode (mB m22) 199 = .ok (.iload 10, 2) := by decide +kernel
theorem d22_201 : decode (mB m22) 201 = .ok (.iload_n 1, 1) := by decide +kernel
theorem d22_202 : decode (mB m22) 202 = .ok (.iload 7, 2) := by decide +kernel
theorem d22_204 : decode (mB m22) 204 = .ok (.iload 11, 2) := by decide +kernel
theorem d22_206 : decode (mB m22) 206 = .ok (.invokestatic 7, 3) := by decide +kernel
theorem d22_209 : decode (mB m22) 209 = .ok (.iload 5, 2) := by decide +kernel
theorem d22_211 : decode (mB m22) 211 = .ok (.iload 11, 2) := by decide +kernel
theorem d22_213 : decode (mB m22) 213 = .ok (.iload 8, 2) := by decide +kernel
theorem d22_215 : decode (mB m22) 215 = .ok (.invokestatic 7, 3) := by decide +kernel
theorem d22_218 : decode (mB m22) 218 = .ok (.imul, 1) := by decide +kernel
theorem d22_219 : decode (mB m22) 219 = .ok (.iadd, 1) := by decide +kernel
theorem d22_220 : decode (mB m22) 220 = .ok (.istore 10, 2) := by decide +kernel
theorem d22_222 : decode (mB m22) 222 = .ok (.iinc 11 1, 3) := by decide +kernel
theorem d22_225 : decode (mB m22) 225 = .ok (.goto (-32), 3) := by decide +kernel
theorem d22_228 : decode (mB m22) 228 = .ok (.aload_n 2, 1) := by decide +kernel
theorem d22_229 : decode (mB m22) 229 = .ok (.iload 7, 2) := by decide +kernel
theorem d22_231 : decode (mB m22) 231 = .ok (.iload 8, 2) := by decide +kernel
theorem d22_233 : decode (mB m22) 233 = .ok (.invokevirtual 29, 3) := by decide +kernel
theorem d22_236 : decode (mB m22) 236 = .ok (.iload 10, 2) := by decide +kernel
theorem d22_238 : decode (mB m22) 238 = .ok (.if_icmp .eq 5, 3) := by decide +kernel
theorem d22_241 : decode (mB m22) 241 = .ok (.iconst 0, 1) := by decide +kernel
theorem d22_242 : decode (mB m22) 242 = .ok (.ireturn, 1) := by decide +kernel
theorem d22_243 : decode (mB m22) 243 = .ok (.iinc 8 1, 3) := by decide +kernel
theorem d22_246 : decode (mB m22) 246 = .ok (.goto (-114), 3) := by decide +kernel
theorem d22_249 : decode (mB m22) 249 = .ok (.iinc 7 1, 3) := by decide +kernel
theorem d22_252 : decode (mB m22) 252 = .ok (.goto (-129), 3) := by decide +kernel
theorem d22_255 : decode (mB m22) 255 = .ok (.iload_n 3, 1) := by decide +kernel
theorem d22_256 : decode (mB m22) 256 = .ok (.iload 6, 2) := by decide +kernel
theorem d22_258 : decode (mB m22) 258 = .ok (.if_icmp .ne 25, 3) := by decide +kernel
theorem d22_261 : decode (mB m22) 261 = .ok (.aload_n 2, 1) := by decide +kernel
theorem d22_262 : decode (mB m22) 262 = .ok (.invokevirtual 32, 3) := by decide +kernel
theorem d22_265 : decode (mB m22) 265 = .ok (.iload 6, 2) := by decide +kernel
theorem d22_267 : decode (mB m22) 267 = .ok (.if_icmp .ne 16, 3) := by decide +kernel
theorem d22_270 : decode (mB m22) 270 = .ok (.aload_n 2, 1) := by decide +kernel
theorem d22_271 : decode (mB m22) 271 = .ok (.invokevirtual 36, 3) := by decide +kernel
theorem d22_274 : decode (mB m22) 274 = .ok (.iload 4, 2) := by decide +kernel
theorem d22_276 : decode (mB m22) 276 = .ok (.if_icmp .ne 7, 3) := by decide +kernel
theorem d22_279 : decode (mB m22) 279 = .ok (.iconst 1, 1) := by decide +kernel
theorem d22_280 : decode (mB m22) 280 = .ok (.goto 4, 3) := by decide +kernel
theorem d22_283 : decode (mB m22) 283 = .ok (.iconst 0, 1) := by decide +kernel
theorem d22_284 : decode (mB m22) 284 = .ok (.ireturn, 1) := by decide +kernel
theorem cb_m4 : (-4 : Int32) = (Int8.ofInt (-4)).toInt32 := by decide
theorem cb_m2 : (-2 : Int32) = (Int8.ofInt (-2)).toInt32 := by decide
theorem cb_9 : (9 : Int32) = (Int8.ofInt (9)).toInt32 := by decide
theorem cb_16 : (16 : Int32) = (Int8.ofInt (16)).toInt32 := by decide
theorem cb_24 : (24 : Int32) = (Int8.ofInt (24)).toInt32 := by decide
theorem cb_32 : (32 : Int32) = (Int8.ofInt (32)).toInt32 := by decide
theorem ci_m1 : (-1 : Int32) = Int32.ofInt (-1) := by decide
theorem ci_0 : (0 : Int32) = Int32.ofInt (0) := by decide
theorem ci_1 : (1 : Int32) = Int32.ofInt (1) := by decide
theorem ci_2 : (2 : Int32) = Int32.ofInt (2) := by decide
theorem ci_3 : (3 : Int32) = Int32.ofInt (3) := by decide
theorem ci_4 : (4 : Int32) = Int32.ofInt (4) := by decide
theorem cs_256 : (256 : Int32) = (Int16.ofInt (256)).toInt32 := by decide
theorem cs_511 : (511 : Int32) = (Int16.ofInt (511)).toInt32 := by decide
theorem j_1_15 : 0 ≤ ((1 : Nat) : Int) + (15) ∧ (((1 : Nat) : Int) + (15)).toNat = 16 := by decide
theorem j_5_7 : 0 ≤ ((5 : Nat) : Int) + (7) ∧ (((5 : Nat) : Int) + (7)).toNat = 12 := by decide
theorem j_5_11 : 0 ≤ ((5 : Nat) : Int) + (11) ∧ (((5 : Nat) : Int) + (11)).toNat = 16 := by decide
theorem j_5_21 : 0 ≤ ((5 : Nat) : Int) + (21) ∧ (((5 : Nat) : Int) + (21)).toNat = 26 := by decide
theorem j_5_23 : 0 ≤ ((5 : Nat) : Int) + (23) ∧ (((5 : Nat) : Int) + (23)).toNat = 28 := by decide
theorem j_5_28 : 0 ≤ ((5 : Nat) : Int) + (28) ∧ (((5 : Nat) : Int) + (28)).toNat = 33 := by decide
theorem j_6_73 : 0 ≤ ((6 : Nat) : Int) + (73) ∧ (((6 : Nat) : Int) + (73)).toNat = 79 := by decide
theorem j_7_25 : 0 ≤ ((7 : Nat) : Int) + (25) ∧ (((7 : Nat) : Int) + (25)).toNat = 32 := by decide
theorem j_7_31 : 0 ≤ ((7 : Nat) : Int) + (31) ∧ (((7 : Nat) : Int) + (31)).toNat = 38 := by decide
theorem j_9_4 : 0 ≤ ((9 : Nat) : Int) + (4) ∧ (((9 : Nat) : Int) + (4)).toNat = 13 := by decide
theorem j_9_7 : 0 ≤ ((9 : Nat) : Int) + (7) ∧ (((9 : Nat) : Int) + (7)).toNat = 16 := by decide
theorem j_9_22 : 0 ≤ ((9 : Nat) : Int) + (22) ∧ (((9 : Nat) : Int) + (22)).toNat = 31 := by decide
theorem j_9_31 : 0 ≤ ((9 : Nat) : Int) + (31) ∧ (((9 : Nat) : Int) + (31)).toNat = 40 := by decide
theorem j_9_36 : 0 ≤ ((9 : Nat) : Int) + (36) ∧ (((9 : Nat) : Int) + (36)).toNat = 45 := by decide
theorem j_10_7 : 0 ≤ ((10 : Nat) : Int) + (7) ∧ (((10 : Nat) : Int) + (7)).toNat = 17 := by decide
theorem j_13_4 : 0 ≤ ((13 : Nat) : Int) + (4) ∧ (((13 : Nat) : Int) + (4)).toNat = 17 := by decide
theorem j_13_5 : 0 ≤ ((13 : Nat) : Int) + (5) ∧ (((13 : Nat) : Int) + (5)).toNat = 18 := by decide
theorem j_14_4 : 0 ≤ ((14 : Nat) : Int) + (4) ∧ (((14 : Nat) : Int) + (4)).toNat = 18 := by decide
theorem j_15_58 : 0 ≤ ((15 : Nat) : Int) + (58) ∧ (((15 : Nat) : Int) + (58)).toNat = 73 := by decide
theorem j_18_28 : 0 ≤ ((18 : Nat) : Int) + (28) ∧ (((18 : Nat) : Int) + (28)).toNat = 46 := by decide
theorem j_20_19 : 0 ≤ ((20 : Nat) : Int) + (19) ∧ (((20 : Nat) : Int) + (19)).toNat = 39 := by decide
theorem j_23_m21 : 0 ≤ ((23 : Nat) : Int) + (-21) ∧ (((23 : Nat) : Int) + (-21)).toNat = 2 := by decide
theorem j_24_6 : 0 ≤ ((24 : Nat) : Int) + (6) ∧ (((24 : Nat) : Int) + (6)).toNat = 30 := by decide
theorem j_24_43 : 0 ≤ ((24 : Nat) : Int) + (43) ∧ (((24 : Nat) : Int) + (43)).toNat = 67 := by decide
theorem j_25_m23 : 0 ≤ ((25 : Nat) : Int) + (-23) ∧ (((25 : Nat) : Int) + (-23)).toNat = 2 := by decide
theorem j_27_13 : 0 ≤ ((27 : Nat) : Int) + (13) ∧ (((27 : Nat) : Int) + (13)).toNat = 40 := by decide
theorem j_28_m24 : 0 ≤ ((28 : Nat) : Int) + (-24) ∧ (((28 : Nat) : Int) + (-24)).toNat = 4 := by decide
theorem j_28_61 : 0 ≤ ((28 : Nat) : Int) + (61) ∧ (((28 : Nat) : Int) + (61)).toNat = 89 := by decide
theorem j_29_m27 : 0 ≤ ((29 : Nat) : Int) + (-27) ∧ (((29 : Nat) : Int) + (-27)).toNat = 2 := by decide
theorem j_30_m28 : 0 ≤ ((30 : Nat) : Int) + (-28) ∧ (((30 : Nat) : Int) + (-28)).toNat = 2 := by decide
theorem j_34_6 : 0 ≤ ((34 : Nat) : Int) + (6) ∧ (((34 : Nat) : Int) + (6)).toNat = 40 := by decide
theorem j_35_m33 : 0 ≤ ((35 : Nat) : Int) + (-33) ∧ (((35 : Nat) : Int) + (-33)).toNat = 2 := by decide
theorem j_35_26 : 0 ≤ ((35 : Nat) : Int) + (26) ∧ (((35 : Nat) : Int) + (26)).toNat = 61 := by decide
theorem j_37_m33 : 0 ≤ ((37 : Nat) : Int) + (-33) ∧ (((37 : Nat) : Int) + (-33)).toNat = 4 := by decide
theorem j_37_46 : 0 ≤ ((37 : Nat) : Int) + (46) ∧ (((37 : Nat) : Int) + (46)).toNat = 83 := by decide
theorem j_38_6 : 0 ≤ ((38 : Nat) : Int) + (6) ∧ (((38 : Nat) : Int) + (6)).toNat = 44 := by decide
theorem j_42_m38 : 0 ≤ ((42 : Nat) : Int) + (-38) ∧ (((42 : Nat) : Int) + (-38)).toNat = 4 := by decide
theorem j_43_m31 : 0 ≤ ((43 : Nat) : Int) + (-31) ∧ (((43 : Nat) : Int) + (-31)).toNat = 12 := by decide
theorem j_47_14 : 0 ≤ ((47 : Nat) : Int) + (14) ∧ (((47 : Nat) : Int) + (14)).toNat = 61 := by decide
theorem j_49_28 : 0 ≤ ((49 : Nat) : Int) + (28) ∧ (((49 : Nat) : Int) + (28)).toNat = 77 := by decide
theorem j_49_35 : 0 ≤ ((49 : Nat) : Int) + (35) ∧ (((49 : Nat) : Int) + (35)).toNat = 84 := by decide
theorem j_58_20 : 0 ≤ ((58 : Nat) : Int) + (20) ∧ (((58 : Nat) : Int) + (20)).toNat = 78 := by decide
theorem j_64_m43 : 0 ≤ ((64 : Nat) : Int) + (-43) ∧ (((64 : Nat) : Int) + (-43)).toNat = 21 := by decide
theorem j_64_5 : 0 ≤ ((64 : Nat) : Int) + (5) ∧ (((64 : Nat) : Int) + (5)).toNat = 69 := by decide
theorem j_70_m58 : 0 ≤ ((70 : Nat) : Int) + (-58) ∧ (((70 : Nat) : Int) + (-58)).toNat = 12 := by decide
theorem j_72_6 : 0 ≤ ((72 : Nat) : Int) + (6) ∧ (((72 : Nat) : Int) + (6)).toNat = 78 := by decide
theorem j_76_m72 : 0 ≤ ((76 : Nat) : Int) + (-72) ∧ (((76 : Nat) : Int) + (-72)).toNat = 4 := by decide
theorem j_80_m46 : 0 ≤ ((80 : Nat) : Int) + (-46) ∧ (((80 : Nat) : Int) + (-46)).toNat = 34 := by decide
theorem j_81_m38 : 0 ≤ ((81 : Nat) : Int) + (-38) ∧ (((81 : Nat) : Int) + (-38)).toNat = 43 := by decide
theorem j_86_m61 : 0 ≤ ((86 : Nat) : Int) + (-61) ∧ (((86 : Nat) : Int) + (-61)).toNat = 25 := by decide
theorem j_90_5 : 0 ≤ ((90 : Nat) : Int) + (5) ∧ (((90 : Nat) : Int) + (5)).toNat = 95 := by decide
theorem j_98_6 : 0 ≤ ((98 : Nat) : Int) + (6) ∧ (((98 : Nat) : Int) + (6)).toNat = 104 := by decide
theorem j_98_19 : 0 ≤ ((98 : Nat) : Int) + (19) ∧ (((98 : Nat) : Int) + (19)).toNat = 117 := by decide
theorem j_110_6 : 0 ≤ ((110 : Nat) : Int) + (6) ∧ (((110 : Nat) : Int) + (6)).toNat = 116 := by decide
theorem j_114_m19 : 0 ≤ ((114 : Nat) : Int) + (-19) ∧ (((114 : Nat) : Int) + (-19)).toNat = 95 := by decide
theorem j_121_8 : 0 ≤ ((121 : Nat) : Int) + (8) ∧ (((121 : Nat) : Int) + (8)).toNat = 129 := by decide
theorem j_126_129 : 0 ≤ ((126 : Nat) : Int) + (129) ∧ (((126 : Nat) : Int) + (129)).toNat = 255 := by decide
theorem j_135_114 : 0 ≤ ((135 : Nat) : Int) + (114) ∧ (((135 : Nat) : Int) + (114)).toNat = 249 := by decide
theorem j_167_7 : 0 ≤ ((167 : Nat) : Int) + (7) ∧ (((167 : Nat) : Int) + (7)).toNat = 174 := by decide
theorem j_171_4 : 0 ≤ ((171 : Nat) : Int) + (4) ∧ (((171 : Nat) : Int) + (4)).toNat = 175 := by decide
theorem j_175_5 : 0 ≤ ((175 : Nat) : Int) + (5) ∧ (((175 : Nat) : Int) + (5)).toNat = 180 := by decide
theorem j_196_32 : 0 ≤ ((196 : Nat) : Int) + (32) ∧ (((196 : Nat) : Int) + (32)).toNat = 228 := by decide
theorem j_225_m32 : 0 ≤ ((225 : Nat) : Int) + (-32) ∧ (((225 : Nat) : Int) + (-32)).toNat = 193 := by decide
theorem j_238_5 : 0 ≤ ((238 : Nat) : Int) + (5) ∧ (((238 : Nat) : Int) + (5)).toNat = 243 := by decide
theorem j_246_m114 : 0 ≤ ((246 : Nat) : Int) + (-114) ∧ (((246 : Nat) : Int) + (-114)).toNat = 132 := by decide
theorem j_252_m129 : 0 ≤ ((252 : Nat) : Int) + (-129) ∧ (((252 : Nat) : Int) + (-129)).toNat = 123 := by decide
theorem j_258_25 : 0 ≤ ((258 : Nat) : Int) + (25) ∧ (((258 : Nat) : Int) + (25)).toNat = 283 := by decide
theorem j_267_16 : 0 ≤ ((267 : Nat) : Int) + (16) ∧ (((267 : Nat) : Int) + (16)).toNat = 283 := by decide
theorem j_276_7 : 0 ≤ ((276 : Nat) : Int) + (7) ∧ (((276 : Nat) : Int) + (7)).toNat = 283 := by decide
theorem j_280_4 : 0 ≤ ((280 : Nat) : Int) + (4) ∧ (((280 : Nat) : Int) + (4)).toNat = 284 := by decide
theorem lk_0_65 : LinkP PP "DredViewKeeper" 65 m2 := ⟨List.mem_of_getElem? (i := 58) rfl, List.mem_of_getElem? (i := 59) rfl, List.mem_of_getElem? (i := 60) rfl, List.mem_of_getElem? (i := 61) rfl, rfl, rfl⟩
theorem lk_0_69 : LinkP PP "DredViewKeeper" 69 m3 := ⟨List.mem_of_getElem? (i := 94) rfl, List.mem_of_getElem? (i := 95) rfl, List.mem_of_getElem? (i := 96) rfl, List.mem_of_getElem? (i := 97) rfl, rfl, rfl⟩
theorem lk_0_73 : LinkP PP "DredViewKeeper" 73 m4 := ⟨List.mem_of_getElem? (i := 98) rfl, List.mem_of_getElem? (i := 99) rfl, List.mem_of_getElem? (i := 100) rfl, List.mem_of_getElem? (i := 101) rfl, rfl, rfl⟩
theorem lk_0_76 : LinkP PP "DredViewKeeper" 76 m12 := ⟨List.mem_of_getElem? (i := 102) rfl, List.mem_of_getElem? (i := 103) rfl, List.mem_of_getElem? (i := 104) rfl, List.mem_of_getElem? (i := 105) rfl, rfl, rfl⟩
theorem lk_0_80 : LinkP PP "DredViewKeeper" 80 m14 := ⟨List.mem_of_getElem? (i := 134) rfl, List.mem_of_getElem? (i := 135) rfl, List.mem_of_getElem? (i := 136) rfl, List.mem_of_getElem? (i := 137) rfl, rfl, rfl⟩
theorem lk_0_98 : LinkP PP "DredViewKeeper" 98 m17 := ⟨List.mem_of_getElem? (i := 62) rfl, List.mem_of_getElem? (i := 63) rfl, List.mem_of_getElem? (i := 64) rfl, List.mem_of_getElem? (i := 65) rfl, rfl, rfl⟩
theorem lk_0_101 : LinkP PP "DredViewKeeper" 101 m13 := ⟨List.mem_of_getElem? (i := 76) rfl, List.mem_of_getElem? (i := 77) rfl, List.mem_of_getElem? (i := 78) rfl, List.mem_of_getElem? (i := 79) rfl, rfl, rfl⟩
theorem lk_0_105 : LinkP PP "DredViewKeeper" 105 m5 := ⟨List.mem_of_getElem? (i := 106) rfl, List.mem_of_getElem? (i := 107) rfl, List.mem_of_getElem? (i := 108) rfl, List.mem_of_getElem? (i := 109) rfl, rfl, rfl⟩
theorem lk_0_108 : LinkP PP "DredViewKeeper" 108 m6 := ⟨List.mem_of_getElem? (i := 110) rfl, List.mem_of_getElem? (i := 111) rfl, List.mem_of_getElem? (i := 112) rfl, List.mem_of_getElem? (i := 113) rfl, rfl, rfl⟩
theorem lk_0_111 : LinkP PP "DredViewKeeper" 111 m11 := ⟨List.mem_of_getElem? (i := 114) rfl, List.mem_of_getElem? (i := 115) rfl, List.mem_of_getElem? (i := 116) rfl, List.mem_of_getElem? (i := 117) rfl, rfl, rfl⟩
theorem lk_0_114 : LinkP PP "DredViewKeeper" 114 m7 := ⟨List.mem_of_getElem? (i := 118) rfl, List.mem_of_getElem? (i := 119) rfl, List.mem_of_getElem? (i := 120) rfl, List.mem_of_getElem? (i := 121) rfl, rfl, rfl⟩
theorem lk_0_118 : LinkP PP "DredViewKeeper" 118 m9 := ⟨List.mem_of_getElem? (i := 122) rfl, List.mem_of_getElem? (i := 123) rfl, List.mem_of_getElem? (i := 124) rfl, List.mem_of_getElem? (i := 125) rfl, rfl, rfl⟩
theorem lk_0_121 : LinkP PP "DredViewKeeper" 121 m10 := ⟨List.mem_of_getElem? (i := 130) rfl, List.mem_of_getElem? (i := 131) rfl, List.mem_of_getElem? (i := 132) rfl, List.mem_of_getElem? (i := 133) rfl, rfl, rfl⟩
theorem lk_0_124 : LinkP PP "DredViewKeeper" 124 m8 := ⟨List.mem_of_getElem? (i := 126) rfl, List.mem_of_getElem? (i := 127) rfl, List.mem_of_getElem? (i := 128) rfl, List.mem_of_getElem? (i := 129) rfl, rfl, rfl⟩
theorem lk_1_7 : LinkS PP "DredViewKeeperL3" 7 m1 := ⟨List.mem_of_getElem? (i := 46) rfl, List.mem_of_getElem? (i := 47) rfl, List.mem_of_getElem? (i := 48) rfl, List.mem_of_getElem? (i := 49) rfl, by decide⟩
theorem lk_1_15 : LinkI PP "DredViewKeeperL3" 15 m0 := ⟨List.mem_of_getElem? (i := 3) rfl, List.mem_of_getElem? (i := 4) rfl, List.mem_of_getElem? (i := 5) rfl, rfl, rfl, rfl, rfl⟩
theorem lk_1_18 : LinkV PP "DredViewKeeperL3" 18 m15 := ⟨List.mem_of_getElem? (i := 89) rfl, List.mem_of_getElem? (i := 90) rfl, List.mem_of_getElem? (i := 92) rfl, List.mem_of_getElem? (i := 91) rfl, List.mem_of_getElem? (i := 93) rfl, rfl, rfl⟩
theorem lk_1_22 : LinkS PP "DredViewKeeperL3" 22 m16 := ⟨List.mem_of_getElem? (i := 50) rfl, List.mem_of_getElem? (i := 51) rfl, List.mem_of_getElem? (i := 48) rfl, List.mem_of_getElem? (i := 52) rfl, by decide⟩
theorem lk_1_25 : LinkV PP "DredViewKeeperL3" 25 m18 := ⟨List.mem_of_getElem? (i := 53) rfl, List.mem_of_getElem? (i := 54) rfl, List.mem_of_getElem? (i := 56) rfl, List.mem_of_getElem? (i := 55) rfl, List.mem_of_getElem? (i := 57) rfl, rfl, rfl⟩
theorem lk_1_29 : LinkV PP "DredViewKeeperL3" 29 m19 := ⟨List.mem_of_getElem? (i := 66) rfl, List.mem_of_getElem? (i := 67) rfl, List.mem_of_getElem? (i := 69) rfl, List.mem_of_getElem? (i := 68) rfl, List.mem_of_getElem? (i := 70) rfl, rfl, rfl⟩
theorem lk_1_32 : LinkV PP "DredViewKeeperL3" 32 m20 := ⟨List.mem_of_getElem? (i := 71) rfl, List.mem_of_getElem? (i := 72) rfl, List.mem_of_getElem? (i := 74) rfl, List.mem_of_getElem? (i := 73) rfl, List.mem_of_getElem? (i := 75) rfl, rfl, rfl⟩
theorem lk_1_36 : LinkV PP "DredViewKeeperL3" 36 m21 := ⟨List.mem_of_getElem? (i := 84) rfl, List.mem_of_getElem? (i := 85) rfl, List.mem_of_getElem? (i := 87) rfl, List.mem_of_getElem? (i := 86) rfl, List.mem_of_getElem? (i := 88) rfl, rfl, rfl⟩
theorem facts1 {Z : State} {a0 : Array Value} (hw : ∀ d ∈ tables_1, d.before a0 Z = true) : Facts Z a0 ci1 := by
  refine ⟨hw _ (List.mem_of_getElem? (i := 1) rfl), hw _ (List.mem_of_getElem? (i := 2) rfl), ?_, ?_, by decide, ?_, by decide⟩
  · intro f x hx
    match f, hx with
    | 0, hx => cases hx; exact ⟨Or.inr (hw _ (List.mem_of_getElem? (i := 10) rfl)), by decide⟩
    | 1, hx => cases hx; exact ⟨Or.inr (hw _ (List.mem_of_getElem? (i := 12) rfl)), by decide⟩
    | 2, hx => cases hx; exact ⟨Or.inl (hw _ (List.mem_of_getElem? (i := 33) rfl)), by decide⟩
    | 3, hx => cases hx; exact ⟨Or.inl (hw _ (List.mem_of_getElem? (i := 35) rfl)), by decide⟩
    | 4, hx => cases hx; exact ⟨Or.inl (hw _ (List.mem_of_getElem? (i := 37) rfl)), by decide⟩
    | 5, hx => cases hx; exact ⟨Or.inl (hw _ (List.mem_of_getElem? (i := 39) rfl)), by decide⟩
    | 6, hx => cases hx; exact ⟨Or.inl (hw _ (List.mem_of_getElem? (i := 41) rfl)), by decide⟩
    | 7, hx => cases hx; exact ⟨Or.inl (hw _ (List.mem_of_getElem? (i := 43) rfl)), by decide⟩
    | 8, hx => cases hx; exact ⟨Or.inl (hw _ (List.mem_of_getElem? (i := 45) rfl)), by decide⟩
    | n + 9, hx => simp [cS, ci1] at hx
  · intro q x hx
    match q, hx with
    | 0, hx => cases hx; exact ⟨Or.inr (hw _ (List.mem_of_getElem? (i := 15) rfl)), by decide⟩
    | 1, hx => cases hx; exact ⟨Or.inr (hw _ (List.mem_of_getElem? (i := 17) rfl)), by decide⟩
    | 2, hx => cases hx; exact ⟨Or.inr (hw _ (List.mem_of_getElem? (i := 19) rfl)), by decide⟩
    | 3, hx => cases hx; exact ⟨Or.inr (hw _ (List.mem_of_getElem? (i := 21) rfl)), by decide⟩
    | 4, hx => cases hx; exact ⟨Or.inr (hw _ (List.mem_of_getElem? (i := 23) rfl)), by decide⟩
    | 5, hx => cases hx; exact ⟨Or.inr (hw _ (List.mem_of_getElem? (i := 25) rfl)), by decide⟩
    | 6, hx => cases hx; exact ⟨Or.inr (hw _ (List.mem_of_getElem? (i := 27) rfl)), by decide⟩
    | 7, hx => cases hx; exact ⟨Or.inr (hw _ (List.mem_of_getElem? (i := 29) rfl)), by decide⟩
    | 8, hx => cases hx; exact ⟨Or.inr (hw _ (List.mem_of_getElem? (i := 31) rfl)), by decide⟩
    | n + 9, hx => simp [cA, ci1] at hx
  · intro f x hx
    match f, hx with
    | 0, hx => cases hx; rfl
    | 1, hx => cases hx; rfl
    | 2, hx => cases hx; rfl
    | 3, hx => cases hx; rfl
    | 4, hx => cases hx; rfl
    | 5, hx => cases hx; rfl
    | 6, hx => cases hx; rfl
    | 7, hx => cases hx; rfl
    | 8, hx => cases hx; rfl
    | n + 9, hx => simp [cS, ci1] at hx
def k_init_129  (v3 : Int32) (v4 : Int32) (s : S) : Option S :=
  some (sI (sI (sI (sI (sI (sI (sI s 2 v3) 3 v4) 4 ((v3 * v3) + (2 : Int32))) 5 (0 : Int32)) 6 (0 : Int32)) 7 (0 : Int32)) 8 (0 : Int32))
def k_init_116  (v3 : Int32) (v4 : Int32) (s : S) : Option S :=
  k_init_129 v3 (if (256 : Int32) < v4 then (256 : Int32) else v4) s
def k_init_104  (v2 : Int32) (v3 : Int32) (s : S) : Option S :=
  k_init_116 v3 (if v2 < (1 : Int32) then (1 : Int32) else v2) s
def k_init_95  (v2 : Int32) (v3 : Int32) (s : S) : Option S :=
  k_init_104 v2 (if (32 : Int32) < v3 then (32 : Int32) else v3) s
def k_init  (v1 : Int32) (v2 : Int32)  : Option S :=
  k_init_95 v2 (if v1 < (2 : Int32) then (2 : Int32) else v1) (sA (sA (sA (sA (sA (sA (sA (sA (sA (sI (sI s0 0 (1 : Int32)) 1 (2 : Int32)) 0 (rep 32 0)) 1 (rep 32 0)) 2 (rep 32 0)) 3 (rep 32 0)) 4 (rep 32 0)) 5 (rep 32 0)) 6 (rep 16 0)) 7 (rep 16 0)) 8 (rep 16 0))
def k_isValid  (v1 : Int32) (s : S) : Int32 :=
  if v1 < 0 then
    (0 : Int32)
  else
    if v1 < (gI s 2) then
      (1 : Int32)
    else
      (0 : Int32)
def k_edgePresent  (v1 : Int32) (v2 : Int32) (s : S) : Option Int32 :=
  (ix (gA s 0) v1).bind fun a5 =>
  if ((XT.ushr a5 v2) &&& (1 : Int32)) = 0 then
    some (0 : Int32)
  else
    some (1 : Int32)
def k_takeSnapshot_2  : Nat → Int32 → S → Option S
  | 0, _, _ => none
  | n + 1, v1, s =>
    if v1 < (32 : Int32) then
      (ix (gA s 1) v1).bind fun a18 =>
      (Jvm.AM.st (gA s 2) v1 a18).bind fun a19 =>
      k_takeSnapshot_2 n (v1 + (1 : Int32)) (sA s 2 a19)
    else
      some s
def k_takeSnapshot   (s : S) : Option S :=
  k_takeSnapshot_2 BIG (0 : Int32) s
def k_bit  (v1 : Int32)  : Int32 :=
  (1 : Int32) <<< (v1 &&& 31)
def k_clearDelta_2  : Nat → Int32 → S → Option S
  | 0, _, _ => none
  | n + 1, v1, s =>
    if v1 < (32 : Int32) then
      (Jvm.AM.st (gA s 3) v1 (0 : Int32)).bind fun a14 =>
      (Jvm.AM.st (gA s 4) v1 (0 : Int32)).bind fun a21 =>
      k_clearDelta_2 n (v1 + (1 : Int32)) (sA (sA s 3 a14) 4 a21)
    else
      some s
def k_clearDelta   (s : S) : Option S :=
  k_clearDelta_2 BIG (0 : Int32) s
def k_mergeDeltaIntoReach_4  : Nat → Int32 → Int32 → S → Option (Int32 × S)
  | 0, _, _, _ => none
  | n + 1, v1, v2, s =>
    if v2 < (gI s 2) then
      (ix (gA s 3) v2).bind fun a17 =>
      if a17 = 0 then
        k_mergeDeltaIntoReach_4 n v1 (v2 + (1 : Int32)) s
      else
        (ix (gA s 1) v2).bind fun a33 =>
        (Jvm.AM.st (gA s 1) v2 (a33 ||| a17)).bind fun a36 =>
        k_mergeDeltaIntoReach_4 n (1 : Int32) (v2 + (1 : Int32)) (sA s 1 a36)
    else
      some (nar .boolean v1, s)
def k_mergeDeltaIntoReach   (s : S) : Option (Int32 × S) :=
  k_mergeDeltaIntoReach_4 BIG (0 : Int32) (0 : Int32) s
def k_gatherDelta_12  : Nat → Int32 → Int32 → Int32 → S → Option Int32
  | 0, _, _, _, _ => none
  | n + 1, v2, v3, v4, s =>
    if v4 < (gI s 2) then
      if ((XT.ushr v2 v4) &&& (1 : Int32)) = 0 then
        k_gatherDelta_12 n v2 v3 (v4 + (1 : Int32)) s
      else
        (ix (gA s 3) v4).bind fun a37 =>
        k_gatherDelta_12 n v2 (v3 ||| a37) (v4 + (1 : Int32)) s
    else
      some v3
def k_gatherDelta  (v1 : Int32) (s : S) : Option Int32 :=
  (ix (gA s 0) v1).bind fun a5 =>
  k_gatherDelta_12 BIG a5 (0 : Int32) (0 : Int32) s
def k_computeNextAdditions_2  : Nat → Int32 → S → Option S
  | 0, _, _ => none
  | n + 1, v1, s =>
    if v1 < (gI s 2) then
      (k_gatherDelta v1 s).bind fun r12 =>
      (ix (gA s 1) v1).bind fun a27 =>
      (Jvm.AM.st (gA s 4) v1 (r12 &&& (a27 ^^^ (-1 : Int32)))).bind fun a31 =>
      k_computeNextAdditions_2 n (v1 + (1 : Int32)) (sA s 4 a31)
    else
      some s
def k_computeNextAdditions   (s : S) : Option S :=
  k_computeNextAdditions_2 BIG (0 : Int32) s
def k_shiftDelta_2  : Nat → Int32 → S → Option S
  | 0, _, _ => none
  | n + 1, v1, s =>
    if v1 < (32 : Int32) then
      (ix (gA s 4) v1).bind fun a18 =>
      (Jvm.AM.st (gA s 3) v1 a18).bind fun a19 =>
      (Jvm.AM.st (gA s 4) v1 (0 : Int32)).bind fun a26 =>
      k_shiftDelta_2 n (v1 + (1 : Int32)) (sA (sA s 3 a19) 4 a26)
    else
      some s
def k_shiftDelta   (s : S) : Option S :=
  k_shiftDelta_2 BIG (0 : Int32) s
def k_propagateAdditions_2  : Nat → Int32 → S → Option S
  | 0, _, _ => none
  | n + 1, v1, s =>
    if v1 < (gI s 4) then
      (k_mergeDeltaIntoReach s).bind fun r11 =>
      if r11.1 = 0 then
        some r11.2
      else
        (k_computeNextAdditions r11.2).bind fun r19 =>
        (k_shiftDelta r19).bind fun r23 =>
        k_propagateAdditions_2 n (v1 + (1 : Int32)) r23
    else
      some s
def k_propagateAdditions   (s : S) : Option S :=
  k_propagateAdditions_2 BIG (0 : Int32) s
def k_addEdgeAndPropagate  (v1 : Int32) (v2 : Int32) (s : S) : Option S :=
  (ix (gA s 0) v1).bind fun a16 =>
  (Jvm.AM.st (gA s 0) v1 (a16 ||| (k_bit v2))).bind fun a19 =>
  (k_clearDelta (sI (sA s 0 a19) 5 ((gI s 5) + (1 : Int32)))).bind fun r31 =>
  (ix (gA r31 1) v2).bind fun a40 =>
  (ix (gA r31 1) v1).bind fun a56 =>
  (Jvm.AM.st (gA r31 3) v1 (((k_bit v2) ||| a40) &&& (a56 ^^^ (-1 : Int32)))).bind fun a60 =>
  (k_propagateAdditions (sA r31 3 a60)).bind fun r62 =>
  some r62
def k_popCount_30  (v2 : Int32)  : Int32 :=
  XT.ushr (v2 * (16843009 : Int32)) (24 : Int32)
def k_popCount  (v1 : Int32)  : Int32 :=
  k_popCount_30 (((((v1 - ((XT.ushr v1 (1 : Int32)) &&& (1431655765 : Int32))) &&& (858993459 : Int32)) + ((XT.ushr (v1 - ((XT.ushr v1 (1 : Int32)) &&& (1431655765 : Int32))) (2 : Int32)) &&& (858993459 : Int32))) + (XT.ushr (((v1 - ((XT.ushr v1 (1 : Int32)) &&& (1431655765 : Int32))) &&& (858993459 : Int32)) + ((XT.ushr (v1 - ((XT.ushr v1 (1 : Int32)) &&& (1431655765 : Int32))) (2 : Int32)) &&& (858993459 : Int32))) (4 : Int32))) &&& (252645135 : Int32))
def k_countAdded_4  : Nat → Int32 → Int32 → S → Option Int32
  | 0, _, _, _ => none
  | n + 1, v1, v2, s =>
    if v2 < (gI s 2) then
      (ix (gA s 1) v2).bind fun a19 =>
      (ix (gA s 2) v2).bind fun a25 =>
      k_countAdded_4 n (v1 + (k_popCount (a19 &&& (a25 ^^^ (-1 : Int32))))) (v2 + (1 : Int32)) s
    else
      some v1
def k_countAdded   (s : S) : Option Int32 :=
  k_countAdded_4 BIG (0 : Int32) (0 : Int32) s
def k_insertEdge  (v1 : Int32) (v2 : Int32) (s : S) : Option (Int32 × S) :=
  if (k_isValid v1 s) = 0 then
    some ((-1 : Int32), s)
  else
    if (k_isValid v2 s) = 0 then
      some ((-1 : Int32), s)
    else
      (k_edgePresent v1 v2 s).bind fun r21 =>
      if r21 = 0 then
        if (gI s 5) = (gI s 3) then
          some ((-4 : Int32), s)
        else
          (k_takeSnapshot s).bind fun r45 =>
          (k_addEdgeAndPropagate v1 v2 r45).bind fun r51 =>
          (k_countAdded r51).bind fun r56 =>
          some (r56, sI (sI r51 7 r56) 8 (0 : Int32))
      else
        some ((-2 : Int32), s)
def k_testBit  (v1 : Int32) (v2 : Int32)  : Int32 :=
  if ((XT.ushr v1 v2) &&& (1 : Int32)) = 0 then
    (0 : Int32)
  else
    (1 : Int32)
def k_reaches  (v1 : Int32) (v2 : Int32) (s : S) : Option Int32 :=
  if (k_isValid v1 s) = 0 then
    some (0 : Int32)
  else
    if (k_isValid v2 s) = 0 then
      some (0 : Int32)
    else
      (ix (gA s 1) v1).bind fun a24 =>
      some (nar .boolean (k_testBit a24 v2))
def k_derivationCount_43  : Nat → Int32 → Int32 → Int32 → Int32 → S → Option Int32
  | 0, _, _, _, _, _ => none
  | n + 1, v2, v3, v4, v5, s =>
    if v5 < (gI s 2) then
      if ((XT.ushr v3 v5) &&& (1 : Int32)) = 0 then
        k_derivationCount_43 n v2 v3 v4 (v5 + (1 : Int32)) s
      else
        (ix (gA s 1) v5).bind fun a67 =>
        k_derivationCount_43 n v2 v3 (if ((XT.ushr a67 v2) &&& (1 : Int32)) = 0 then v4 else v4 + (1 : Int32)) (v5 + (1 : Int32)) s
    else
      some v4
def k_derivationCount_40  (v2 : Int32) (v3 : Int32) (v4 : Int32) (s : S) : Option Int32 :=
  k_derivationCount_43 BIG v2 v3 v4 (0 : Int32) s
def k_derivationCount  (v1 : Int32) (v2 : Int32) (s : S) : Option Int32 :=
  if (k_isValid v1 s) = 0 then
    some (-1 : Int32)
  else
    if (k_isValid v2 s) = 0 then
      some (-1 : Int32)
    else
      (ix (gA s 0) v1).bind fun a23 =>
      k_derivationCount_40 v2 a23 (if (k_testBit a23 v2) = 0 then (0 : Int32) else (1 : Int32)) s
def k_viewSize_4  : Nat → Int32 → Int32 → S → Option Int32
  | 0, _, _, _ => none
  | n + 1, v1, v2, s =>
    if v2 < (gI s 2) then
      (ix (gA s 1) v2).bind fun a19 =>
      k_viewSize_4 n (v1 + (k_popCount a19)) (v2 + (1 : Int32)) s
    else
      some v1
def k_viewSize   (s : S) : Option Int32 :=
  k_viewSize_4 BIG (0 : Int32) (0 : Int32) s
def k_edgeCount   (s : S) : Int32 :=
  gI s 5
def h_bit  (v0 : Int32) (v1 : Int32) (v2 : Int32)  : Int32 :=
  (v0 >>> (((v1 * (3 : Int32)) + v2) &&& 31)) &&& (1 : Int32)
def h_step_21 (k4 : Int32 → Int32 → Int32 → Int32 → Option Int32) (k12 : Int32 → Int32 → Int32 → Int32 → Int32 → Option Int32) : Nat → Int32 → Int32 → Int32 → Int32 → Int32 → Int32 → Option Int32
  | 0, _, _, _, _, _, _ => none
  | n + 1, v0, v1, v2, v3, v4, v5 =>
    if v5 < (3 : Int32) then
      h_step_21 k4 k12 n v0 v1 (if (h_bit v0 v3 v5) = (1 : Int32) then if (h_bit v1 v5 v4) = (1 : Int32) then v2 ||| ((1 : Int32) <<< (((v3 * (3 : Int32)) + v4) &&& 31)) else v2 else v2) v3 v4 (v5 + (1 : Int32))
    else
      k12 v0 v1 v2 v3 (v4 + (1 : Int32))
def h_step_12 (k4 : Int32 → Int32 → Int32 → Int32 → Option Int32) : Nat → Int32 → Int32 → Int32 → Int32 → Int32 → Option Int32
  | 0, _, _, _, _, _ => none
  | n + 1, v0, v1, v2, v3, v4 =>
    if v4 < (3 : Int32) then
      h_step_21 k4 (fun v0 v1 v2 v3 v4 => h_step_12 k4 n v0 v1 v2 v3 v4) BIG v0 v1 v2 v3 v4 (0 : Int32)
    else
      k4 v0 v1 v2 (v3 + (1 : Int32))
def h_step_4  : Nat → Int32 → Int32 → Int32 → Int32 → Option Int32
  | 0, _, _, _, _ => none
  | n + 1, v0, v1, v2, v3 =>
    if v3 < (3 : Int32) then
      h_step_12 (fun v0 v1 v2 v3 => h_step_4 n v0 v1 v2 v3) BIG v0 v1 v2 v3 (0 : Int32)
    else
      some v2
def h_step  (v0 : Int32) (v1 : Int32)  : Option Int32 :=
  h_step_4 BIG v0 v1 (0 : Int32) (0 : Int32)
def law_255  (v3 : Int32) (v4 : Int32) (v6 : Int32) (t0 : S) : Option (Int32 × S) :=
  if v3 = v6 then
    (k_viewSize t0).bind fun r262 =>
    if r262 = v6 then
      if (k_edgeCount t0) = v4 then
        some ((1 : Int32), t0)
      else
        some ((0 : Int32), t0)
    else
      some ((0 : Int32), t0)
  else
    some ((0 : Int32), t0)
def law_228 (k123 : Int32 → Int32 → Int32 → Int32 → Int32 → Int32 → S → Option (Int32 × S)) (k132 : Int32 → Int32 → Int32 → Int32 → Int32 → Int32 → Int32 → S → Option (Int32 × S)) (v1 : Int32) (v3 : Int32) (v4 : Int32) (v5 : Int32) (v6 : Int32) (v7 : Int32) (v8 : Int32) (v10 : Int32) (t0 : S) : Option (Int32 × S) :=
  (k_derivationCount v7 v8 t0).bind fun r233 =>
  if r233 = v10 then
    k132 v1 v3 v4 v5 v6 v7 (v8 + (1 : Int32)) t0
  else
    some ((0 : Int32), t0)
def law_193 (k123 : Int32 → Int32 → Int32 → Int32 → Int32 → Int32 → S → Option (Int32 × S)) (k132 : Int32 → Int32 → Int32 → Int32 → Int32 → Int32 → Int32 → S → Option (Int32 × S)) : Nat → Int32 → Int32 → Int32 → Int32 → Int32 → Int32 → Int32 → Int32 → Int32 → S → Option (Int32 × S)
  | 0, _, _, _, _, _, _, _, _, _, _ => none
  | n + 1, v1, v3, v4, v5, v6, v7, v8, v10, v11, t0 =>
    if v11 < (3 : Int32) then
      law_193 k123 k132 n v1 v3 v4 v5 v6 v7 v8 (v10 + ((h_bit v1 v7 v11) * (h_bit v5 v11 v8))) (v11 + (1 : Int32)) t0
    else
      law_228 k123 k132 v1 v3 v4 v5 v6 v7 v8 v10 t0
def law_175 (k123 : Int32 → Int32 → Int32 → Int32 → Int32 → Int32 → S → Option (Int32 × S)) (k132 : Int32 → Int32 → Int32 → Int32 → Int32 → Int32 → Int32 → S → Option (Int32 × S)) (v1 : Int32) (v3 : Int32) (v4 : Int32) (v5 : Int32) (v6 : Int32) (v7 : Int32) (v8 : Int32) (p0 : Int32) (p1 : Int32) (t0 : S) : Option (Int32 × S) :=
  if p1 = p0 then
    law_193 k123 k132 BIG v1 v3 v4 v5 v6 v7 v8 (h_bit v1 v7 v8) (0 : Int32) t0
  else
    some ((0 : Int32), t0)
def law_132 (k123 : Int32 → Int32 → Int32 → Int32 → Int32 → Int32 → S → Option (Int32 × S)) : Nat → Int32 → Int32 → Int32 → Int32 → Int32 → Int32 → Int32 → S → Option (Int32 × S)
  | 0, _, _, _, _, _, _, _, _ => none
  | n + 1, v1, v3, v4, v5, v6, v7, v8, t0 =>
    if v8 < (3 : Int32) then
      (k_reaches v7 v8 t0).bind fun r161 =>
      law_175 k123 (fun v1 v3 v4 v5 v6 v7 v8 t0 => law_132 k123 n v1 v3 v4 v5 v6 v7 v8 t0) v1 v3 v4 v5 (v6 + (h_bit v5 v7 v8)) v7 v8 (if (h_bit v5 v7 v8) = (1 : Int32) then (1 : Int32) else (0 : Int32)) r161 t0
    else
      k123 v1 v3 v4 v5 v6 (v7 + (1 : Int32)) t0
def law_123  : Nat → Int32 → Int32 → Int32 → Int32 → Int32 → Int32 → S → Option (Int32 × S)
  | 0, _, _, _, _, _, _, _ => none
  | n + 1, v1, v3, v4, v5, v6, v7, t0 =>
    if v7 < (3 : Int32) then
      law_132 (fun v1 v3 v4 v5 v6 v7 t0 => law_123 n v1 v3 v4 v5 v6 v7 t0) BIG v1 v3 v4 v5 v6 v7 (0 : Int32) t0
    else
      law_255 v3 v4 v6 t0
def law_117  (v1 : Int32) (v3 : Int32) (v4 : Int32) (v5 : Int32) (t0 : S) : Option (Int32 × S) :=
  law_123 BIG v1 v3 v4 v5 (0 : Int32) (0 : Int32) t0
def law_95  : Nat → Int32 → Int32 → Int32 → Int32 → Int32 → S → Option (Int32 × S)
  | 0, _, _, _, _, _, _ => none
  | n + 1, v1, v3, v4, v5, v6, t0 =>
    if v6 < (3 : Int32) then
      (h_step v1 v5).bind fun r105 =>
      law_95 n v1 v3 v4 (v1 ||| r105) (v6 + (1 : Int32)) t0
    else
      law_117 v1 v3 v4 v5 t0
def law_89  (v1 : Int32) (v3 : Int32) (v4 : Int32) (t0 : S) : Option (Int32 × S) :=
  law_95 BIG v1 v3 v4 v1 (0 : Int32) t0
def law_34 (k25 : Int32 → Int32 → Int32 → Int32 → S → Option (Int32 × S)) : Nat → Int32 → Int32 → Int32 → Int32 → Int32 → S → Option (Int32 × S)
  | 0, _, _, _, _, _, _ => none
  | n + 1, v1, v3, v4, v5, v6, t0 =>
    if v6 < (3 : Int32) then
      if (h_bit v1 v5 v6) = (1 : Int32) then
        (k_insertEdge v5 v6 t0).bind fun r57 =>
        if r57.1 < 0 then
          some ((0 : Int32), r57.2)
        else
          law_34 k25 n v1 (v3 + r57.1) (v4 + (1 : Int32)) v5 (v6 + (1 : Int32)) r57.2
      else
        law_34 k25 n v1 v3 v4 v5 (v6 + (1 : Int32)) t0
    else
      k25 v1 v3 v4 (v5 + (1 : Int32)) t0
def law_25  : Nat → Int32 → Int32 → Int32 → Int32 → S → Option (Int32 × S)
  | 0, _, _, _, _, _ => none
  | n + 1, v1, v3, v4, v5, t0 =>
    if v5 < (3 : Int32) then
      law_34 (fun v1 v3 v4 v5 t0 => law_25 n v1 v3 v4 v5 t0) BIG v1 v3 v4 v5 (0 : Int32) t0
    else
      law_89 v1 v3 v4 t0
def law  (v0 : Int32)  : Option (Int32 × S) :=
  (k_init (3 : Int32) (9 : Int32)).bind fun r13 =>
  law_25 BIG (v0 &&& (511 : Int32)) (0 : Int32) (0 : Int32) (0 : Int32) r13
set_option maxRecDepth 65536 in
set_option maxHeartbeats 4000000 in
theorem k_init_129_ok  : ∀ (v3 : Int32) (v4 : Int32) (s : S) (x1 : Slot) (x2 : Slot) (hx1 : k1 x1) (hx2 : k1 x2) (o : S), k_init_129 v3 v4 s = some o → Go PP m0 129 [.val (.ref 1), x1, x2, .val (.int v3), .val (.int v4)] [] (none, [(9, s)]) (none, (none, [(9, o)])) := by
  intro v3 v4 s x1 x2 hx1 hx2 o hf
  unfold k_init_129 at hf
  refine go_aloadN (pc := 129) d0_129 rfl (go_iloadN (pc := 130) d0_130 rfl (go_putI (pc := 131) fs_44 hm_0 (wr_2 _) hn_0 d0_131 (go_aloadN (pc := 134) d0_134 rfl (go_iload (pc := 135) d0_135 rfl (go_putI (pc := 137) fs_47 hm_0 (wr_3 _) hn_0 d0_137 (go_aloadN (pc := 140) d0_140 rfl (go_iloadN (pc := 141) d0_141 rfl ?_)))))))
  refine go_iloadN (pc := 142) d0_142 rfl (go_imul (pc := 143) d0_143 (go_iconst (pc := 144) d0_144 ci_2 (go_iadd (pc := 145) d0_145 (go_putI (pc := 146) fs_50 hm_0 (wr_4 _) hn_0 d0_146 (go_aloadN (pc := 149) d0_149 rfl (go_iconst (pc := 150) d0_150 ci_0 (go_putI (pc := 151) fs_53 hm_0 (wr_5 _) hn_0 d0_151 ?_)))))))
  refine go_aloadN (pc := 154) d0_154 rfl (go_iconst (pc := 155) d0_155 ci_0 (go_putI (pc := 156) fs_56 hm_0 (wr_6 _) hn_0 d0_156 (go_aloadN (pc := 159) d0_159 rfl (go_iconst (pc := 160) d0_160 ci_0 (go_putI (pc := 161) fs_59 hm_0 (wr_7 _) hn_0 d0_161 (go_aloadN (pc := 164) d0_164 rfl (go_iconst (pc := 165) d0_165 ci_0 ?_)))))))
  refine go_putI (pc := 166) fs_62 hm_0 (wr_8 _) hn_0 d0_166 ?_
  cases hf
  exact go_ret (pc := 169) rfl d0_169
set_option maxRecDepth 65536 in
set_option maxHeartbeats 4000000 in
theorem k_init_116_ok  : ∀ (v3 : Int32) (v4 : Int32) (s : S) (x1 : Slot) (x2 : Slot) (hx1 : k1 x1) (hx2 : k1 x2) (o : S), k_init_116 v3 v4 s = some o → Go PP m0 116 [.val (.ref 1), x1, x2, .val (.int v3), .val (.int v4)] [] (none, [(9, s)]) (none, (none, [(9, o)])) := by
  intro v3 v4 s x1 x2 hx1 hx2 o hf
  unfold k_init_116 at hf
  refine go_iload (pc := 116) d0_116 rfl (go_sipush (pc := 118) d0_118 cs_256 ?_)
  by_cases h1 : (256 : Int32) < v4
  · refine go_icN (pc := 121) d0_121 (XT.ii_le_f h1) ?_
    refine go_sipush (pc := 124) d0_124 cs_256 (go_istore (pc := 127) (L' := [.val (.ref 1), x1, x2, .val (.int v3), .val (.int (256 : Int32))]) d0_127 rfl ?_)
    exact k_init_129_ok v3 (256 : Int32) s x1 x2 hx1 hx2 _ (by simpa only [if_pos h1] using hf)
  · refine go_icY (pc := 121) (pc' := 129) d0_121 (XT.ii_le_t h1) j_121_8 ?_
    exact k_init_129_ok v3 v4 s x1 x2 hx1 hx2 _ (by simpa only [if_neg h1] using hf)
set_option maxRecDepth 65536 in
set_option maxHeartbeats 4000000 in
theorem k_init_104_ok  : ∀ (v2 : Int32) (v3 : Int32) (s : S) (x1 : Slot) (hx1 : k1 x1) (o : S), k_init_104 v2 v3 s = some o → Go PP m0 104 [.val (.ref 1), x1, .val (.int v2), .val (.int v3), .unset] [] (none, [(9, s)]) (none, (none, [(9, o)])) := by
  intro v2 v3 s x1 hx1 o hf
  unfold k_init_104 at hf
  refine go_iloadN (pc := 104) d0_104 rfl (go_istore (pc := 105) (L' := [.val (.ref 1), x1, .val (.int v2), .val (.int v3), .val (.int v2)]) d0_105 rfl (go_iload (pc := 107) d0_107 rfl (go_iconst (pc := 109) d0_109 ci_1 ?_)))
  by_cases h1 : v2 < (1 : Int32)
  · refine go_icN (pc := 110) d0_110 (XT.ii_ge_f h1) ?_
    refine go_iconst (pc := 113) d0_113 ci_1 (go_istore (pc := 114) (L' := [.val (.ref 1), x1, .val (.int v2), .val (.int v3), .val (.int (1 : Int32))]) d0_114 rfl ?_)
    exact k_init_116_ok v3 (1 : Int32) s x1 (.val (.int v2)) hx1 (Or.inr ⟨_, rfl, rfl⟩) _ (by simpa only [if_pos h1] using hf)
  · refine go_icY (pc := 110) (pc' := 116) d0_110 (XT.ii_ge_t h1) j_110_6 ?_
    exact k_init_116_ok v3 v2 s x1 (.val (.int v2)) hx1 (Or.inr ⟨_, rfl, rfl⟩) _ (by simpa only [if_neg h1] using hf)
set_option maxRecDepth 65536 in
set_option maxHeartbeats 4000000 in
theorem k_init_95_ok  : ∀ (v2 : Int32) (v3 : Int32) (s : S) (x1 : Slot) (hx1 : k1 x1) (o : S), k_init_95 v2 v3 s = some o → Go PP m0 95 [.val (.ref 1), x1, .val (.int v2), .val (.int v3), .unset] [] (none, [(9, s)]) (none, (none, [(9, o)])) := by
  intro v2 v3 s x1 hx1 o hf
  unfold k_init_95 at hf
  refine go_iloadN (pc := 95) d0_95 rfl (go_bipush (pc := 96) d0_96 cb_32 ?_)
  by_cases h1 : (32 : Int32) < v3
  · refine go_icN (pc := 98) d0_98 (XT.ii_le_f h1) ?_
    refine go_bipush (pc := 101) d0_101 cb_32 (go_istoreN (pc := 103) (L' := [.val (.ref 1), x1, .val (.int v2), .val (.int (32 : Int32)), .unset]) d0_103 rfl ?_)
    exact k_init_104_ok v2 (32 : Int32) s x1 hx1 _ (by simpa only [if_pos h1] using hf)
  · refine go_icY (pc := 98) (pc' := 104) d0_98 (XT.ii_le_t h1) j_98_6 ?_
    exact k_init_104_ok v2 v3 s x1 hx1 _ (by simpa only [if_neg h1] using hf)
set_option maxRecDepth 65536 in
set_option maxHeartbeats 4000000 in
theorem k_init_ok  : ∀ (v1 : Int32) (v2 : Int32)   (o : S), k_init v1 v2 = some o → Go PP m0 0 [.val (.ref 1), .val (.int v1), .val (.int v2), .unset, .unset] [] (none, [(0, s0)]) (none, (none, [(9, o)])) := by
  intro v1 v2 o hf
  unfold k_init at hf
  refine go_aloadN (pc := 0) d0_0 rfl ?_
  refine go_objinit (pc := 1) (rest := []) (a := 0) (List.mem_of_getElem? (i := 6) rfl) (List.mem_of_getElem? (i := 7) rfl) (List.mem_of_getElem? (i := 8) rfl) rfl rfl d0_1 ?_
  refine go_aloadN (pc := 4) d0_4 rfl (go_iconst (pc := 5) d0_5 ci_1 (go_putI (pc := 6) fs_7 hm_0 wr_0 hn_0 d0_6 (go_aloadN (pc := 9) d0_9 rfl (go_iconst (pc := 10) d0_10 ci_2 (go_putI (pc := 11) fs_13 hm_0 wr_1 hn_0 d0_11 (go_aloadN (pc := 14) d0_14 rfl (go_bipush (pc := 15) d0_15 cb_32 ?_)))))))
  refine go_newI (pc := 17) (ty := .int) rfl (by decide) ar_0 (List.mem_of_getElem? (i := 13) rfl) (List.mem_of_getElem? (i := 14) rfl) hm_0 (Or.inr ⟨List.mem_of_getElem? (i := 15) rfl, rfl⟩) rfl hn_0 (by decide) rfl rfl rfl rfl d0_17 d0_19 ?_
  refine go_aloadN (pc := 22) d0_22 rfl (go_bipush (pc := 23) d0_23 cb_32 ?_)
  refine go_newI (pc := 25) (ty := .int) rfl (by decide) ar_1 (List.mem_of_getElem? (i := 13) rfl) (List.mem_of_getElem? (i := 16) rfl) hm_0 (Or.inr ⟨List.mem_of_getElem? (i := 17) rfl, rfl⟩) rfl hn_0 (by decide) rfl rfl rfl rfl d0_25 d0_27 ?_
  refine go_aloadN (pc := 30) d0_30 rfl (go_bipush (pc := 31) d0_31 cb_32 ?_)
  refine go_newI (pc := 33) (ty := .int) rfl (by decide) ar_2 (List.mem_of_getElem? (i := 13) rfl) (List.mem_of_getElem? (i := 18) rfl) hm_0 (Or.inr ⟨List.mem_of_getElem? (i := 19) rfl, rfl⟩) rfl hn_0 (by decide) rfl rfl rfl rfl d0_33 d0_35 ?_
  refine go_aloadN (pc := 38) d0_38 rfl (go_bipush (pc := 39) d0_39 cb_32 ?_)
  refine go_newI (pc := 41) (ty := .int) rfl (by decide) ar_3 (List.mem_of_getElem? (i := 13) rfl) (List.mem_of_getElem? (i := 20) rfl) hm_0 (Or.inr ⟨List.mem_of_getElem? (i := 21) rfl, rfl⟩) rfl hn_0 (by decide) rfl rfl rfl rfl d0_41 d0_43 ?_
  refine go_aloadN (pc := 46) d0_46 rfl (go_bipush (pc := 47) d0_47 cb_32 ?_)
  refine go_newI (pc := 49) (ty := .int) rfl (by decide) ar_4 (List.mem_of_getElem? (i := 13) rfl) (List.mem_of_getElem? (i := 22) rfl) hm_0 (Or.inr ⟨List.mem_of_getElem? (i := 23) rfl, rfl⟩) rfl hn_0 (by decide) rfl rfl rfl rfl d0_49 d0_51 ?_
  refine go_aloadN (pc := 54) d0_54 rfl (go_bipush (pc := 55) d0_55 cb_32 ?_)
  refine go_newI (pc := 57) (ty := .int) rfl (by decide) ar_5 (List.mem_of_getElem? (i := 13) rfl) (List.mem_of_getElem? (i := 24) rfl) hm_0 (Or.inr ⟨List.mem_of_getElem? (i := 25) rfl, rfl⟩) rfl hn_0 (by decide) rfl rfl rfl rfl d0_57 d0_59 ?_
  refine go_aloadN (pc := 62) d0_62 rfl (go_bipush (pc := 63) d0_63 cb_16 ?_)
  refine go_newI (pc := 65) (ty := .int) rfl (by decide) ar_6 (List.mem_of_getElem? (i := 13) rfl) (List.mem_of_getElem? (i := 26) rfl) hm_0 (Or.inr ⟨List.mem_of_getElem? (i := 27) rfl, rfl⟩) rfl hn_0 (by decide) rfl rfl rfl rfl d0_65 d0_67 ?_
  refine go_aloadN (pc := 70) d0_70 rfl (go_bipush (pc := 71) d0_71 cb_16 ?_)
  refine go_newI (pc := 73) (ty := .int) rfl (by decide) ar_7 (List.mem_of_getElem? (i := 13) rfl) (List.mem_of_getElem? (i := 28) rfl) hm_0 (Or.inr ⟨List.mem_of_getElem? (i := 29) rfl, rfl⟩) rfl hn_0 (by decide) rfl rfl rfl rfl d0_73 d0_75 ?_
  refine go_aloadN (pc := 78) d0_78 rfl (go_bipush (pc := 79) d0_79 cb_16 ?_)
  refine go_newI (pc := 81) (ty := .int) rfl (by decide) ar_8 (List.mem_of_getElem? (i := 13) rfl) (List.mem_of_getElem? (i := 30) rfl) hm_0 (Or.inr ⟨List.mem_of_getElem? (i := 31) rfl, rfl⟩) rfl hn_0 (by decide) rfl rfl rfl rfl d0_81 d0_83 ?_
  refine go_iloadN (pc := 86) d0_86 rfl (go_istoreN (pc := 87) (L' := [.val (.ref 1), .val (.int v1), .val (.int v2), .val (.int v1), .unset]) d0_87 rfl (go_iloadN (pc := 88) d0_88 rfl (go_iconst (pc := 89) d0_89 ci_2 ?_)))
  by_cases h10 : v1 < (2 : Int32)
  · refine go_icN (pc := 90) d0_90 (XT.ii_ge_f h10) ?_
    refine go_iconst (pc := 93) d0_93 ci_2 (go_istoreN (pc := 94) (L' := [.val (.ref 1), .val (.int v1), .val (.int v2), .val (.int (2 : Int32)), .unset]) d0_94 rfl ?_)
    exact k_init_95_ok v2 (2 : Int32) (sA (sA (sA (sA (sA (sA (sA (sA (sA (sI (sI s0 0 (1 : Int32)) 1 (2 : Int32)) 0 (rep 32 0)) 1 (rep 32 0)) 2 (rep 32 0)) 3 (rep 32 0)) 4 (rep 32 0)) 5 (rep 32 0)) 6 (rep 16 0)) 7 (rep 16 0)) 8 (rep 16 0)) (.val (.int v1)) (Or.inr ⟨_, rfl, rfl⟩) _ (by simpa only [if_pos h10] using hf)
  · refine go_icY (pc := 90) (pc' := 95) d0_90 (XT.ii_ge_t h10) j_90_5 ?_
    exact k_init_95_ok v2 v1 (sA (sA (sA (sA (sA (sA (sA (sA (sA (sI (sI s0 0 (1 : Int32)) 1 (2 : Int32)) 0 (rep 32 0)) 1 (rep 32 0)) 2 (rep 32 0)) 3 (rep 32 0)) 4 (rep 32 0)) 5 (rep 32 0)) 6 (rep 16 0)) 7 (rep 16 0)) 8 (rep 16 0)) (.val (.int v1)) (Or.inr ⟨_, rfl, rfl⟩) _ (by simpa only [if_neg h10] using hf)
theorem c_k_init (v1 : Int32) (v2 : Int32) (o : S) (hf : k_init v1 v2 = some o) : Call PP m0 [.ref 1, .int v1, .int v2] (none, [(0, s0)]) (none, (none, [(9, o)])) := call_of_go pl_0 rfl (fun _ => rfl) (k_init_ok v1 v2   _ hf)
set_option maxRecDepth 65536 in
set_option maxHeartbeats 4000000 in
theorem k_isValid_ok  : ∀ (v1 : Int32) (s : S)  (o : Int32), k_isValid v1 s = o → Go PP m2 0 [.val (.ref 1), .val (.int v1)] [] (none, [(9, s)]) (some (.int o), (none, [(9, s)])) := by
  intro v1 s o hf
  unfold k_isValid at hf
  refine go_iloadN (pc := 0) d2_0 rfl ?_
  by_cases h1 : v1 < 0
  · replace hf := (if_pos h1).symm.trans hf
    refine go_ifY (pc := 1) (pc' := 16) d2_1 (XT.i0_lt_t h1) j_1_15 ?_
    refine go_iconst (pc := 16) d2_16 ci_0 ?_
    cases hf
    exact go_zret (pc := 17) rfl d2_17 (show (0 : Int32) = nar .boolean (0 : Int32) by decide)
  · replace hf := (if_neg h1).symm.trans hf
    refine go_ifN (pc := 1) d2_1 (XT.i0_lt_f h1) ?_
    refine go_iloadN (pc := 4) d2_4 rfl (go_aloadN (pc := 5) d2_5 rfl (go_getI (pc := 6) fs_44 hm_2 d2_6 ?_))
    by_cases h2 : v1 < (gI s 2)
    · replace hf := (if_pos h2).symm.trans hf
      refine go_icN (pc := 9) d2_9 (XT.ii_ge_f h2) ?_
      refine go_iconst (pc := 12) d2_12 ci_1 (go_goto (pc := 13) (pc' := 17) d2_13 j_13_4 ?_)
      cases hf
      exact go_zret (pc := 17) rfl d2_17 (show (1 : Int32) = nar .boolean (1 : Int32) by decide)
    · replace hf := (if_neg h2).symm.trans hf
      refine go_icY (pc := 9) (pc' := 16) d2_9 (XT.ii_ge_t h2) j_9_7 ?_
      refine go_iconst (pc := 16) d2_16 ci_0 ?_
      cases hf
      exact go_zret (pc := 17) rfl d2_17 (show (0 : Int32) = nar .boolean (0 : Int32) by decide)
theorem c_k_isValid (v1 : Int32) (s : S) : Call PP m2 [.ref 1, .int v1] (none, [(9, s)]) (some (.int (k_isValid v1 s)), (none, [(9, s)])) := call_of_go pl_0 rfl (fun h => nomatch h) (k_isValid_ok v1 s   _ rfl)
set_option maxRecDepth 65536 in
set_option maxHeartbeats 4000000 in
theorem k_edgePresent_ok  : ∀ (v1 : Int32) (v2 : Int32) (s : S)  (o : Int32), k_edgePresent v1 v2 s = some o → Go PP m3 0 [.val (.ref 1), .val (.int v1), .val (.int v2)] [] (none, [(9, s)]) (some (.int o), (none, [(9, s)])) := by
  intro v1 v2 s o hf
  unfold k_edgePresent at hf
  refine go_aloadN (pc := 0) d3_0 rfl (go_getA (pc := 1) fa_16 hm_3 d3_1 rfl (go_iloadN (pc := 4) d3_4 rfl ?_))
  obtain ⟨a5, e1, hf⟩ := Option.bind_eq_some_iff.mp hf
  refine go_iaload (pc := 5) (q := 0) ar_0 rfl e1 d3_5 ?_
  refine go_iloadN (pc := 6) d3_6 rfl (go_iushr (pc := 7) d3_7 (go_iconst (pc := 8) d3_8 ci_1 (go_iand (pc := 9) d3_9 ?_)))
  by_cases h2 : ((XT.ushr a5 v2) &&& (1 : Int32)) = 0
  · replace hf := (if_pos h2).symm.trans hf
    refine go_ifY (pc := 10) (pc' := 17) d3_10 (XT.i0_eq_t h2) j_10_7 ?_
    refine go_iconst (pc := 17) d3_17 ci_0 ?_
    cases hf
    exact go_zret (pc := 18) rfl d3_18 (show (0 : Int32) = nar .boolean (0 : Int32) by decide)
  · replace hf := (if_neg h2).symm.trans hf
    refine go_ifN (pc := 10) d3_10 (XT.i0_eq_f h2) ?_
    refine go_iconst (pc := 13) d3_13 ci_1 (go_goto (pc := 14) (pc' := 18) d3_14 j_14_4 ?_)
    cases hf
    exact go_zret (pc := 18) rfl d3_18 (show (1 : Int32) = nar .boolean (1 : Int32) by decide)
theorem c_k_edgePresent (v1 : Int32) (v2 : Int32) (s : S) (o : Int32) (hf : k_edgePresent v1 v2 s = some o) : Call PP m3 [.ref 1, .int v1, .int v2] (none, [(9, s)]) (some (.int o), (none, [(9, s)])) := call_of_go pl_0 rfl (fun h => nomatch h) (k_edgePresent_ok v1 v2 s   _ hf)
set_option maxRecDepth 65536 in
set_option maxHeartbeats 4000000 in
theorem k_takeSnapshot_2_ok  : ∀ (n : Nat) (v1 : Int32) (s : S)  (o : S), k_takeSnapshot_2 n v1 s = some o → Go PP m4 2 [.val (.ref 1), .val (.int v1)] [] (none, [(9, s)]) (none, (none, [(9, o)])) := by
  intro n
  induction n with
  | zero => intro v1 s o hf; exact nomatch hf
  | succ n ih =>
    intro v1 s o hf
    unfold k_takeSnapshot_2 at hf
    refine go_iloadN (pc := 2) d4_2 rfl (go_bipush (pc := 3) d4_3 cb_32 ?_)
    by_cases h1 : v1 < (32 : Int32)
    · replace hf := (if_pos h1).symm.trans hf
      refine go_icN (pc := 5) d4_5 (XT.ii_ge_f h1) ?_
      refine go_aloadN (pc := 8) d4_8 rfl (go_getA (pc := 9) fa_23 hm_4 d4_9 rfl (go_iloadN (pc := 12) d4_12 rfl (go_aloadN (pc := 13) d4_13 rfl (go_getA (pc := 14) fa_20 hm_4 d4_14 rfl (go_iloadN (pc := 17) d4_17 rfl ?_)))))
      obtain ⟨a18, e2, hf⟩ := Option.bind_eq_some_iff.mp hf
      refine go_iaload (pc := 18) (q := 1) ar_1 rfl e2 d4_18 ?_
      obtain ⟨a19, e3, hf⟩ := Option.bind_eq_some_iff.mp hf
      refine go_iastore (pc := 19) (q := 2) ar_2 rfl hn_4 e3 d4_19 ?_
      refine go_iinc (pc := 20) (L' := [.val (.ref 1), .val (.int (v1 + (1 : Int32)))]) d4_20 rfl ci_1 rfl (go_goto (pc := 23) (pc' := 2) d4_23 j_23_m21 ?_)
      exact ih (v1 + (1 : Int32)) (sA s 2 a19) _ hf
    · replace hf := (if_neg h1).symm.trans hf
      refine go_icY (pc := 5) (pc' := 26) d4_5 (XT.ii_ge_t h1) j_5_21 ?_
      cases hf
      exact go_ret (pc := 26) rfl d4_26
set_option maxRecDepth 65536 in
set_option maxHeartbeats 4000000 in
theorem k_takeSnapshot_ok  : ∀  (s : S)  (o : S), k_takeSnapshot s = some o → Go PP m4 0 [.val (.ref 1), .unset] [] (none, [(9, s)]) (none, (none, [(9, o)])) := by
  intro s o hf
  unfold k_takeSnapshot at hf
  refine go_iconst (pc := 0) d4_0 ci_0 (go_istoreN (pc := 1) (L' := [.val (.ref 1), .val (.int (0 : Int32))]) d4_1 rfl ?_)
  exact k_takeSnapshot_2_ok BIG (0 : Int32) s _ hf
theorem c_k_takeSnapshot (s : S) (o : S) (hf : k_takeSnapshot s = some o) : Call PP m4 [.ref 1] (none, [(9, s)]) (none, (none, [(9, o)])) := call_of_go pl_0 rfl (fun _ => rfl) (k_takeSnapshot_ok s   _ hf)
set_option maxRecDepth 65536 in
set_option maxHeartbeats 4000000 in
theorem k_bit_ok  {s : S} : ∀ (v1 : Int32)   (o : Int32), k_bit v1 = o → Go PP m5 0 [.val (.ref 1), .val (.int v1)] [] (none, [(9, s)]) (some (.int o), (none, [(9, s)])) := by
  intro v1 o hf
  unfold k_bit at hf
  refine go_iconst (pc := 0) d5_0 ci_1 (go_iloadN (pc := 1) d5_1 rfl (go_ishl (pc := 2) d5_2 ?_))
  cases hf
  exact go_iret (pc := 3) rfl d5_3
theorem c_k_bit (v1 : Int32) (s : S) : Call PP m5 [.ref 1, .int v1] (none, [(9, s)]) (some (.int (k_bit v1)), (none, [(9, s)])) := call_of_go pl_0 rfl (fun h => nomatch h) (k_bit_ok v1   _ rfl)
set_option maxRecDepth 65536 in
set_option maxHeartbeats 4000000 in
theorem k_clearDelta_2_ok  : ∀ (n : Nat) (v1 : Int32) (s : S)  (o : S), k_clearDelta_2 n v1 s = some o → Go PP m6 2 [.val (.ref 1), .val (.int v1)] [] (none, [(9, s)]) (none, (none, [(9, o)])) := by
  intro n
  induction n with
  | zero => intro v1 s o hf; exact nomatch hf
  | succ n ih =>
    intro v1 s o hf
    unfold k_clearDelta_2 at hf
    refine go_iloadN (pc := 2) d6_2 rfl (go_bipush (pc := 3) d6_3 cb_32 ?_)
    by_cases h1 : v1 < (32 : Int32)
    · replace hf := (if_pos h1).symm.trans hf
      refine go_icN (pc := 5) d6_5 (XT.ii_ge_f h1) ?_
      refine go_aloadN (pc := 8) d6_8 rfl (go_getA (pc := 9) fa_26 hm_6 d6_9 rfl (go_iloadN (pc := 12) d6_12 rfl (go_iconst (pc := 13) d6_13 ci_0 ?_)))
      obtain ⟨a14, e2, hf⟩ := Option.bind_eq_some_iff.mp hf
      refine go_iastore (pc := 14) (q := 3) ar_3 rfl hn_6 e2 d6_14 ?_
      refine go_aloadN (pc := 15) d6_15 rfl (go_getA (pc := 16) fa_29 hm_6 d6_16 rfl (go_iloadN (pc := 19) d6_19 rfl (go_iconst (pc := 20) d6_20 ci_0 ?_)))
      obtain ⟨a21, e3, hf⟩ := Option.bind_eq_some_iff.mp hf
      refine go_iastore (pc := 21) (q := 4) ar_4 rfl hn_6 e3 d6_21 ?_
      refine go_iinc (pc := 22) (L' := [.val (.ref 1), .val (.int (v1 + (1 : Int32)))]) d6_22 rfl ci_1 rfl (go_goto (pc := 25) (pc' := 2) d6_25 j_25_m23 ?_)
      exact ih (v1 + (1 : Int32)) (sA (sA s 3 a14) 4 a21) _ hf
    · replace hf := (if_neg h1).symm.trans hf
      refine go_icY (pc := 5) (pc' := 28) d6_5 (XT.ii_ge_t h1) j_5_23 ?_
      cases hf
      exact go_ret (pc := 28) rfl d6_28
set_option maxRecDepth 65536 in
set_option maxHeartbeats 4000000 in
theorem k_clearDelta_ok  : ∀  (s : S)  (o : S), k_clearDelta s = some o → Go PP m6 0 [.val (.ref 1), .unset] [] (none, [(9, s)]) (none, (none, [(9, o)])) := by
  intro s o hf
  unfold k_clearDelta at hf
  refine go_iconst (pc := 0) d6_0 ci_0 (go_istoreN (pc := 1) (L' := [.val (.ref 1), .val (.int (0 : Int32))]) d6_1 rfl ?_)
  exact k_clearDelta_2_ok BIG (0 : Int32) s _ hf
theorem c_k_clearDelta (s : S) (o : S) (hf : k_clearDelta s = some o) : Call PP m6 [.ref 1] (none, [(9, s)]) (none, (none, [(9, o)])) := call_of_go pl_0 rfl (fun _ => rfl) (k_clearDelta_ok s   _ hf)
set_option maxRecDepth 65536 in
set_option maxHeartbeats 4000000 in
theorem k_mergeDeltaIntoReach_4_ok  : ∀ (n : Nat) (v1 : Int32) (v2 : Int32) (s : S) (x3 : Slot) (hx3 : k1 x3) (o : Int32 × S), k_mergeDeltaIntoReach_4 n v1 v2 s = some o → Go PP m7 4 [.val (.ref 1), .val (.int v1), .val (.int v2), x3] [] (none, [(9, s)]) (some (.int o.1), (none, [(9, o.2)])) := by
  intro n
  induction n with
  | zero => intro v1 v2 s x3 hx3 o hf; exact nomatch hf
  | succ n ih =>
    intro v1 v2 s x3 hx3 o hf
    unfold k_mergeDeltaIntoReach_4 at hf
    refine go_iloadN (pc := 4) d7_4 rfl (go_aloadN (pc := 5) d7_5 rfl (go_getI (pc := 6) fs_44 hm_7 d7_6 ?_))
    by_cases h1 : v2 < (gI s 2)
    · replace hf := (if_pos h1).symm.trans hf
      refine go_icN (pc := 9) d7_9 (XT.ii_ge_f h1) ?_
      refine go_aloadN (pc := 12) d7_12 rfl (go_getA (pc := 13) fa_26 hm_7 d7_13 rfl (go_iloadN (pc := 16) d7_16 rfl ?_))
      obtain ⟨a17, e2, hf⟩ := Option.bind_eq_some_iff.mp hf
      refine go_iaload (pc := 17) (q := 3) ar_3 rfl e2 d7_17 ?_
      refine go_istoreN (pc := 18) (L' := [.val (.ref 1), .val (.int v1), .val (.int v2), .val (.int a17)]) d7_18 (stx rfl hx3 rfl) (go_iloadN (pc := 19) d7_19 rfl ?_)
      by_cases h3 : a17 = 0
      · replace hf := (if_pos h3).symm.trans hf
        refine go_ifY (pc := 20) (pc' := 39) d7_20 (XT.i0_eq_t h3) j_20_19 ?_
        refine go_iinc (pc := 39) (L' := [.val (.ref 1), .val (.int v1), .val (.int (v2 + (1 : Int32))), .val (.int a17)]) d7_39 rfl ci_1 rfl (go_goto (pc := 42) (pc' := 4) d7_42 j_42_m38 ?_)
        exact ih v1 (v2 + (1 : Int32)) s (.val (.int a17)) (Or.inr ⟨_, rfl, rfl⟩) _ hf
      · replace hf := (if_neg h3).symm.trans hf
        refine go_ifN (pc := 20) d7_20 (XT.i0_eq_f h3) ?_
        refine go_aloadN (pc := 23) d7_23 rfl (go_getA (pc := 24) fa_20 hm_7 d7_24 rfl (go_iloadN (pc := 27) d7_27 rfl (go_aloadN (pc := 28) d7_28 rfl (go_getA (pc := 29) fa_20 hm_7 d7_29 rfl (go_iloadN (pc := 32) d7_32 rfl ?_)))))
        obtain ⟨a33, e4, hf⟩ := Option.bind_eq_some_iff.mp hf
        refine go_iaload (pc := 33) (q := 1) ar_1 rfl e4 d7_33 ?_
        refine go_iloadN (pc := 34) d7_34 rfl (go_ior (pc := 35) d7_35 ?_)
        obtain ⟨a36, e5, hf⟩ := Option.bind_eq_some_iff.mp hf
        refine go_iastore (pc := 36) (q := 1) ar_1 rfl hn_7 e5 d7_36 ?_
        refine go_iconst (pc := 37) d7_37 ci_1 (go_istoreN (pc := 38) (L' := [.val (.ref 1), .val (.int (1 : Int32)), .val (.int v2), .val (.int a17)]) d7_38 rfl (go_iinc (pc := 39) (L' := [.val (.ref 1), .val (.int (1 : Int32)), .val (.int (v2 + (1 : Int32))), .val (.int a17)]) d7_39 rfl ci_1 rfl (go_goto (pc := 42) (pc' := 4) d7_42 j_42_m38 ?_)))
        exact ih (1 : Int32) (v2 + (1 : Int32)) (sA s 1 a36) (.val (.int a17)) (Or.inr ⟨_, rfl, rfl⟩) _ hf
    · replace hf := (if_neg h1).symm.trans hf
      refine go_icY (pc := 9) (pc' := 45) d7_9 (XT.ii_ge_t h1) j_9_36 ?_
      refine go_iloadN (pc := 45) d7_45 rfl ?_
      cases hf
      exact go_zret (pc := 46) rfl d7_46 rfl
set_option maxRecDepth 65536 in
set_option maxHeartbeats 4000000 in
theorem k_mergeDeltaIntoReach_ok  : ∀  (s : S)  (o : Int32 × S), k_mergeDeltaIntoReach s = some o → Go PP m7 0 [.val (.ref 1), .unset, .unset, .unset] [] (none, [(9, s)]) (some (.int o.1), (none, [(9, o.2)])) := by
  intro s o hf
  unfold k_mergeDeltaIntoReach at hf
  refine go_iconst (pc := 0) d7_0 ci_0 (go_istoreN (pc := 1) (L' := [.val (.ref 1), .val (.int (0 : Int32)), .unset, .unset]) d7_1 rfl (go_iconst (pc := 2) d7_2 ci_0 (go_istoreN (pc := 3) (L' := [.val (.ref 1), .val (.int (0 : Int32)), .val (.int (0 : Int32)), .unset]) d7_3 rfl ?_)))
  exact k_mergeDeltaIntoReach_4_ok BIG (0 : Int32) (0 : Int32) s .unset (Or.inl rfl) _ hf
theorem c_k_mergeDeltaIntoReach (s : S) (o : Int32 × S) (hf : k_mergeDeltaIntoReach s = some o) : Call PP m7 [.ref 1] (none, [(9, s)]) (some (.int o.1), (none, [(9, o.2)])) := call_of_go pl_0 rfl (fun h => nomatch h) (k_mergeDeltaIntoReach_ok s   _ hf)
set_option maxRecDepth 65536 in
set_option maxHeartbeats 4000000 in
theorem k_gatherDelta_12_ok  : ∀ (n : Nat) (v2 : Int32) (v3 : Int32) (v4 : Int32) (s : S) (x1 : Slot) (hx1 : k1 x1) (o : Int32), k_gatherDelta_12 n v2 v3 v4 s = some o → Go PP m8 12 [.val (.ref 1), x1, .val (.int v2), .val (.int v3), .val (.int v4)] [] (none, [(9, s)]) (some (.int o), (none, [(9, s)])) := by
  intro n
  induction n with
  | zero => intro v2 v3 v4 s x1 hx1 o hf; exact nomatch hf
  | succ n ih =>
    intro v2 v3 v4 s x1 hx1 o hf
    unfold k_gatherDelta_12 at hf
    refine go_iload (pc := 12) d8_12 rfl (go_aloadN (pc := 14) d8_14 rfl (go_getI (pc := 15) fs_44 hm_8 d8_15 ?_))
    by_cases h1 : v4 < (gI s 2)
    · replace hf := (if_pos h1).symm.trans hf
      refine go_icN (pc := 18) d8_18 (XT.ii_ge_f h1) ?_
      refine go_iloadN (pc := 21) d8_21 rfl (go_iload (pc := 22) d8_22 rfl (go_iushr (pc := 24) d8_24 (go_iconst (pc := 25) d8_25 ci_1 (go_iand (pc := 26) d8_26 ?_))))
      by_cases h2 : ((XT.ushr v2 v4) &&& (1 : Int32)) = 0
      · replace hf := (if_pos h2).symm.trans hf
        refine go_ifY (pc := 27) (pc' := 40) d8_27 (XT.i0_eq_t h2) j_27_13 ?_
        refine go_iinc (pc := 40) (L' := [.val (.ref 1), x1, .val (.int v2), .val (.int v3), .val (.int (v4 + (1 : Int32)))]) d8_40 rfl ci_1 rfl (go_goto (pc := 43) (pc' := 12) d8_43 j_43_m31 ?_)
        exact ih v2 v3 (v4 + (1 : Int32)) s x1 hx1 _ hf
      · replace hf := (if_neg h2).symm.trans hf
        refine go_ifN (pc := 27) d8_27 (XT.i0_eq_f h2) ?_
        refine go_iloadN (pc := 30) d8_30 rfl (go_aloadN (pc := 31) d8_31 rfl (go_getA (pc := 32) fa_26 hm_8 d8_32 rfl (go_iload (pc := 35) d8_35 rfl ?_)))
        obtain ⟨a37, e3, hf⟩ := Option.bind_eq_some_iff.mp hf
        refine go_iaload (pc := 37) (q := 3) ar_3 rfl e3 d8_37 ?_
        refine go_ior (pc := 38) d8_38 (go_istoreN (pc := 39) (L' := [.val (.ref 1), x1, .val (.int v2), .val (.int (v3 ||| a37)), .val (.int v4)]) d8_39 rfl (go_iinc (pc := 40) (L' := [.val (.ref 1), x1, .val (.int v2), .val (.int (v3 ||| a37)), .val (.int (v4 + (1 : Int32)))]) d8_40 rfl ci_1 rfl (go_goto (pc := 43) (pc' := 12) d8_43 j_43_m31 ?_)))
        exact ih v2 (v3 ||| a37) (v4 + (1 : Int32)) s x1 hx1 _ hf
    · replace hf := (if_neg h1).symm.trans hf
      refine go_icY (pc := 18) (pc' := 46) d8_18 (XT.ii_ge_t h1) j_18_28 ?_
      refine go_iloadN (pc := 46) d8_46 rfl ?_
      cases hf
      exact go_iret (pc := 47) rfl d8_47
set_option maxRecDepth 65536 in
set_option maxHeartbeats 4000000 in
theorem k_gatherDelta_ok  : ∀ (v1 : Int32) (s : S)  (o : Int32), k_gatherDelta v1 s = some o → Go PP m8 0 [.val (.ref 1), .val (.int v1), .unset, .unset, .unset] [] (none, [(9, s)]) (some (.int o), (none, [(9, s)])) := by
  intro v1 s o hf
  unfold k_gatherDelta at hf
  refine go_aloadN (pc := 0) d8_0 rfl (go_getA (pc := 1) fa_16 hm_8 d8_1 rfl (go_iloadN (pc := 4) d8_4 rfl ?_))
  obtain ⟨a5, e1, hf⟩ := Option.bind_eq_some_iff.mp hf
  refine go_iaload (pc := 5) (q := 0) ar_0 rfl e1 d8_5 ?_
  refine go_istoreN (pc := 6) (L' := [.val (.ref 1), .val (.int v1), .val (.int a5), .unset, .unset]) d8_6 rfl (go_iconst (pc := 7) d8_7 ci_0 (go_istoreN (pc := 8) (L' := [.val (.ref 1), .val (.int v1), .val (.int a5), .val (.int (0 : Int32)), .unset]) d8_8 rfl (go_iconst (pc := 9) d8_9 ci_0 (go_istore (pc := 10) (L' := [.val (.ref 1), .val (.int v1), .val (.int a5), .val (.int (0 : Int32)), .val (.int (0 : Int32))]) d8_10 rfl ?_))))
  exact k_gatherDelta_12_ok BIG a5 (0 : Int32) (0 : Int32) s (.val (.int v1)) (Or.inr ⟨_, rfl, rfl⟩) _ hf
theorem c_k_gatherDelta (v1 : Int32) (s : S) (o : Int32) (hf : k_gatherDelta v1 s = some o) : Call PP m8 [.ref 1, .int v1] (none, [(9, s)]) (some (.int o), (none, [(9, s)])) := call_of_go pl_0 rfl (fun h => nomatch h) (k_gatherDelta_ok v1 s   _ hf)
set_option maxRecDepth 65536 in
set_option maxHeartbeats 4000000 in
theorem k_computeNextAdditions_2_ok  : ∀ (n : Nat) (v1 : Int32) (s : S) (x2 : Slot) (hx2 : k1 x2) (o : S), k_computeNextAdditions_2 n v1 s = some o → Go PP m9 2 [.val (.ref 1), .val (.int v1), x2] [] (none, [(9, s)]) (none, (none, [(9, o)])) := by
  intro n
  induction n with
  | zero => intro v1 s x2 hx2 o hf; exact nomatch hf
  | succ n ih =>
    intro v1 s x2 hx2 o hf
    unfold k_computeNextAdditions_2 at hf
    refine go_iloadN (pc := 2) d9_2 rfl (go_aloadN (pc := 3) d9_3 rfl (go_getI (pc := 4) fs_44 hm_9 d9_4 ?_))
    by_cases h1 : v1 < (gI s 2)
    · replace hf := (if_pos h1).symm.trans hf
      refine go_icN (pc := 7) d9_7 (XT.ii_ge_f h1) ?_
      refine go_aloadN (pc := 10) d9_10 rfl (go_iloadN (pc := 11) d9_11 rfl ?_)
      obtain ⟨r12, e2, hf⟩ := Option.bind_eq_some_iff.mp hf
      refine go_priv (pc := 12) (i := 0) (as := [.int v1]) (rest := []) (w' := (none, [(9, s)])) lk_0_124 pd_8 rfl oid_0 rfl rfl rfl rfl rfl rfl ⟨rfl, rfl, rfl, rfl, rfl⟩ d9_12 (c_k_gatherDelta v1 s _ e2) ?_
      refine go_istoreN (pc := 15) (L' := [.val (.ref 1), .val (.int v1), .val (.int r12)]) d9_15 (stx rfl hx2 rfl) (go_aloadN (pc := 16) d9_16 rfl (go_getA (pc := 17) fa_29 hm_9 d9_17 rfl (go_iloadN (pc := 20) d9_20 rfl (go_iloadN (pc := 21) d9_21 rfl (go_aloadN (pc := 22) d9_22 rfl (go_getA (pc := 23) fa_20 hm_9 d9_23 rfl (go_iloadN (pc := 26) d9_26 rfl ?_)))))))
      obtain ⟨a27, e3, hf⟩ := Option.bind_eq_some_iff.mp hf
      refine go_iaload (pc := 27) (q := 1) ar_1 rfl e3 d9_27 ?_
      refine go_iconst (pc := 28) d9_28 ci_m1 (go_ixor (pc := 29) d9_29 (go_iand (pc := 30) d9_30 ?_))
      obtain ⟨a31, e4, hf⟩ := Option.bind_eq_some_iff.mp hf
      refine go_iastore (pc := 31) (q := 4) ar_4 rfl hn_9 e4 d9_31 ?_
      refine go_iinc (pc := 32) (L' := [.val (.ref 1), .val (.int (v1 + (1 : Int32))), .val (.int r12)]) d9_32 rfl ci_1 rfl (go_goto (pc := 35) (pc' := 2) d9_35 j_35_m33 ?_)
      exact ih (v1 + (1 : Int32)) (sA s 4 a31) (.val (.int r12)) (Or.inr ⟨_, rfl, rfl⟩) _ hf
    · replace hf := (if_neg h1).symm.trans hf
      refine go_icY (pc := 7) (pc' := 38) d9_7 (XT.ii_ge_t h1) j_7_31 ?_
      cases hf
      exact go_ret (pc := 38) rfl d9_38
set_option maxRecDepth 65536 in
set_option maxHeartbeats 4000000 in
theorem k_computeNextAdditions_ok  : ∀  (s : S)  (o : S), k_computeNextAdditions s = some o → Go PP m9 0 [.val (.ref 1), .unset, .unset] [] (none, [(9, s)]) (none, (none, [(9, o)])) := by
  intro s o hf
  unfold k_computeNextAdditions at hf
  refine go_iconst (pc := 0) d9_0 ci_0 (go_istoreN (pc := 1) (L' := [.val (.ref 1), .val (.int (0 : Int32)), .unset]) d9_1 rfl ?_)
  exact k_computeNextAdditions_2_ok BIG (0 : Int32) s .unset (Or.inl rfl) _ hf
theorem c_k_computeNextAdditions (s : S) (o : S) (hf : k_computeNextAdditions s = some o) : Call PP m9 [.ref 1] (none, [(9, s)]) (none, (none, [(9, o)])) := call_of_go pl_0 rfl (fun _ => rfl) (k_computeNextAdditions_ok s   _ hf)
set_option maxRecDepth 65536 in
set_option maxHeartbeats 4000000 in
theorem k_shiftDelta_2_ok  : ∀ (n : Nat) (v1 : Int32) (s : S)  (o : S), k_shiftDelta_2 n v1 s = some o → Go PP m10 2 [.val (.ref 1), .val (.int v1)] [] (none, [(9, s)]) (none, (none, [(9, o)])) := by
  intro n
  induction n with
  | zero => intro v1 s o hf; exact nomatch hf
  | succ n ih =>
    intro v1 s o hf
    unfold k_shiftDelta_2 at hf
    refine go_iloadN (pc := 2) d10_2 rfl (go_bipush (pc := 3) d10_3 cb_32 ?_)
    by_cases h1 : v1 < (32 : Int32)
    · replace hf := (if_pos h1).symm.trans hf
      refine go_icN (pc := 5) d10_5 (XT.ii_ge_f h1) ?_
      refine go_aloadN (pc := 8) d10_8 rfl (go_getA (pc := 9) fa_26 hm_10 d10_9 rfl (go_iloadN (pc := 12) d10_12 rfl (go_aloadN (pc := 13) d10_13 rfl (go_getA (pc := 14) fa_29 hm_10 d10_14 rfl (go_iloadN (pc := 17) d10_17 rfl ?_)))))
      obtain ⟨a18, e2, hf⟩ := Option.bind_eq_some_iff.mp hf
      refine go_iaload (pc := 18) (q := 4) ar_4 rfl e2 d10_18 ?_
      obtain ⟨a19, e3, hf⟩ := Option.bind_eq_some_iff.mp hf
      refine go_iastore (pc := 19) (q := 3) ar_3 rfl hn_10 e3 d10_19 ?_
      refine go_aloadN (pc := 20) d10_20 rfl (go_getA (pc := 21) fa_29 hm_10 d10_21 rfl (go_iloadN (pc := 24) d10_24 rfl (go_iconst (pc := 25) d10_25 ci_0 ?_)))
      obtain ⟨a26, e4, hf⟩ := Option.bind_eq_some_iff.mp hf
      refine go_iastore (pc := 26) (q := 4) ar_4 rfl hn_10 e4 d10_26 ?_
      refine go_iinc (pc := 27) (L' := [.val (.ref 1), .val (.int (v1 + (1 : Int32)))]) d10_27 rfl ci_1 rfl (go_goto (pc := 30) (pc' := 2) d10_30 j_30_m28 ?_)
      exact ih (v1 + (1 : Int32)) (sA (sA s 3 a19) 4 a26) _ hf
    · replace hf := (if_neg h1).symm.trans hf
      refine go_icY (pc := 5) (pc' := 33) d10_5 (XT.ii_ge_t h1) j_5_28 ?_
      cases hf
      exact go_ret (pc := 33) rfl d10_33
set_option maxRecDepth 65536 in
set_option maxHeartbeats 4000000 in
theorem k_shiftDelta_ok  : ∀  (s : S)  (o : S), k_shiftDelta s = some o → Go PP m10 0 [.val (.ref 1), .unset] [] (none, [(9, s)]) (none, (none, [(9, o)])) := by
  intro s o hf
  unfold k_shiftDelta at hf
  refine go_iconst (pc := 0) d10_0 ci_0 (go_istoreN (pc := 1) (L' := [.val (.ref 1), .val (.int (0 : Int32))]) d10_1 rfl ?_)
  exact k_shiftDelta_2_ok BIG (0 : Int32) s _ hf
theorem c_k_shiftDelta (s : S) (o : S) (hf : k_shiftDelta s = some o) : Call PP m10 [.ref 1] (none, [(9, s)]) (none, (none, [(9, o)])) := call_of_go pl_0 rfl (fun _ => rfl) (k_shiftDelta_ok s   _ hf)
set_option maxRecDepth 65536 in
set_option maxHeartbeats 4000000 in
theorem k_propagateAdditions_2_ok  : ∀ (n : Nat) (v1 : Int32) (s : S)  (o : S), k_propagateAdditions_2 n v1 s = some o → Go PP m11 2 [.val (.ref 1), .val (.int v1)] [] (none, [(9, s)]) (none, (none, [(9, o)])) := by
  intro n
  induction n with
  | zero => intro v1 s o hf; exact nomatch hf
  | succ n ih =>
    intro v1 s o hf
    unfold k_propagateAdditions_2 at hf
    refine go_iloadN (pc := 2) d11_2 rfl (go_aloadN (pc := 3) d11_3 rfl (go_getI (pc := 4) fs_50 hm_11 d11_4 ?_))
    by_cases h1 : v1 < (gI s 4)
    · replace hf := (if_pos h1).symm.trans hf
      refine go_icN (pc := 7) d11_7 (XT.ii_ge_f h1) ?_
      refine go_aloadN (pc := 10) d11_10 rfl ?_
      obtain ⟨r11, e2, hf⟩ := Option.bind_eq_some_iff.mp hf
      refine go_priv (pc := 11) (i := 0) (as := []) (rest := []) (w' := (none, [(9, r11.2)])) lk_0_114 pd_7 rfl oid_0 rfl rfl rfl rfl rfl rfl ⟨rfl, rfl, rfl, rfl, rfl⟩ d11_11 (c_k_mergeDeltaIntoReach s _ e2) ?_
      by_cases h3 : r11.1 = 0
      · replace hf := (if_pos h3).symm.trans hf
        refine go_ifN (pc := 14) d11_14 (XT.i0_ne_f h3) ?_
        cases hf
        exact go_ret (pc := 17) rfl d11_17
      · replace hf := (if_neg h3).symm.trans hf
        refine go_ifY (pc := 14) (pc' := 18) d11_14 (XT.i0_ne_t h3) j_14_4 ?_
        refine go_aloadN (pc := 18) d11_18 rfl ?_
        obtain ⟨r19, e4, hf⟩ := Option.bind_eq_some_iff.mp hf
        refine go_priv (pc := 19) (i := 0) (as := []) (rest := []) (w' := (none, [(9, r19)])) lk_0_118 pd_9 rfl oid_0 rfl rfl rfl rfl rfl rfl ⟨rfl, rfl, rfl, rfl, rfl⟩ d11_19 (c_k_computeNextAdditions r11.2 _ e4) ?_
        refine go_aloadN (pc := 22) d11_22 rfl ?_
        obtain ⟨r23, e5, hf⟩ := Option.bind_eq_some_iff.mp hf
        refine go_priv (pc := 23) (i := 0) (as := []) (rest := []) (w' := (none, [(9, r23)])) lk_0_121 pd_10 rfl oid_0 rfl rfl rfl rfl rfl rfl ⟨rfl, rfl, rfl, rfl, rfl⟩ d11_23 (c_k_shiftDelta r19 _ e5) ?_
        refine go_iinc (pc := 26) (L' := [.val (.ref 1), .val (.int (v1 + (1 : Int32)))]) d11_26 rfl ci_1 rfl (go_goto (pc := 29) (pc' := 2) d11_29 j_29_m27 ?_)
        exact ih (v1 + (1 : Int32)) r23 _ hf
    · replace hf := (if_neg h1).symm.trans hf
      refine go_icY (pc := 7) (pc' := 32) d11_7 (XT.ii_ge_t h1) j_7_25 ?_
      cases hf
      exact go_ret (pc := 32) rfl d11_32
set_option maxRecDepth 65536 in
set_option maxHeartbeats 4000000 in
theorem k_propagateAdditions_ok  : ∀  (s : S)  (o : S), k_propagateAdditions s = some o → Go PP m11 0 [.val (.ref 1), .unset] [] (none, [(9, s)]) (none, (none, [(9, o)])) := by
  intro s o hf
  unfold k_propagateAdditions at hf
  refine go_iconst (pc := 0) d11_0 ci_0 (go_istoreN (pc := 1) (L' := [.val (.ref 1), .val (.int (0 : Int32))]) d11_1 rfl ?_)
  exact k_propagateAdditions_2_ok BIG (0 : Int32) s _ hf
theorem c_k_propagateAdditions (s : S) (o : S) (hf : k_propagateAdditions s = some o) : Call PP m11 [.ref 1] (none, [(9, s)]) (none, (none, [(9, o)])) := call_of_go pl_0 rfl (fun _ => rfl) (k_propagateAdditions_ok s   _ hf)
set_option maxRecDepth 65536 in
set_option maxHeartbeats 4000000 in
theorem k_addEdgeAndPropagate_ok  : ∀ (v1 : Int32) (v2 : Int32) (s : S)  (o : S), k_addEdgeAndPropagate v1 v2 s = some o → Go PP m12 0 [.val (.ref 1), .val (.int v1), .val (.int v2), .unset, .unset] [] (none, [(9, s)]) (none, (none, [(9, o)])) := by
  intro v1 v2 s o hf
  unfold k_addEdgeAndPropagate at hf
  refine go_aloadN (pc := 0) d12_0 rfl (go_iloadN (pc := 1) d12_1 rfl ?_)
  refine go_priv (pc := 2) (i := 0) (as := [.int v2]) (rest := []) (w' := (none, [(9, s)])) lk_0_105 pd_5 rfl oid_0 rfl rfl rfl rfl rfl rfl ⟨rfl, rfl, rfl, rfl, rfl⟩ d12_2 (c_k_bit v2 s) ?_
  refine go_istoreN (pc := 5) (L' := [.val (.ref 1), .val (.int v1), .val (.int v2), .val (.int (k_bit v2)), .unset]) d12_5 rfl (go_aloadN (pc := 6) d12_6 rfl (go_getA (pc := 7) fa_16 hm_12 d12_7 rfl (go_iloadN (pc := 10) d12_10 rfl (go_aloadN (pc := 11) d12_11 rfl (go_getA (pc := 12) fa_16 hm_12 d12_12 rfl (go_iloadN (pc := 15) d12_15 rfl ?_))))))
  obtain ⟨a16, e1, hf⟩ := Option.bind_eq_some_iff.mp hf
  refine go_iaload (pc := 16) (q := 0) ar_0 rfl e1 d12_16 ?_
  refine go_iloadN (pc := 17) d12_17 rfl (go_ior (pc := 18) d12_18 ?_)
  obtain ⟨a19, e2, hf⟩ := Option.bind_eq_some_iff.mp hf
  refine go_iastore (pc := 19) (q := 0) ar_0 rfl hn_12 e2 d12_19 ?_
  refine go_aloadN (pc := 20) d12_20 rfl (go_dupR (pc := 21) d12_21 (go_getI (pc := 22) fs_53 hm_12 d12_22 (go_iconst (pc := 25) d12_25 ci_1 (go_iadd (pc := 26) d12_26 (go_putI (pc := 27) fs_53 hm_12 (wr_5 _) hn_12 d12_27 (go_aloadN (pc := 30) d12_30 rfl ?_))))))
  obtain ⟨r31, e3, hf⟩ := Option.bind_eq_some_iff.mp hf
  refine go_priv (pc := 31) (i := 0) (as := []) (rest := []) (w' := (none, [(9, r31)])) lk_0_108 pd_6 rfl oid_0 rfl rfl rfl rfl rfl rfl ⟨rfl, rfl, rfl, rfl, rfl⟩ d12_31 (c_k_clearDelta (sI (sA s 0 a19) 5 ((gI s 5) + (1 : Int32))) _ e3) ?_
  refine go_iloadN (pc := 34) d12_34 rfl (go_aloadN (pc := 35) d12_35 rfl (go_getA (pc := 36) fa_20 hm_12 d12_36 rfl (go_iloadN (pc := 39) d12_39 rfl ?_)))
  obtain ⟨a40, e4, hf⟩ := Option.bind_eq_some_iff.mp hf
  refine go_iaload (pc := 40) (q := 1) ar_1 rfl e4 d12_40 ?_
  refine go_ior (pc := 41) d12_41 (go_istore (pc := 42) (L' := [.val (.ref 1), .val (.int v1), .val (.int v2), .val (.int (k_bit v2)), .val (.int ((k_bit v2) ||| a40))]) d12_42 rfl (go_aloadN (pc := 44) d12_44 rfl (go_getA (pc := 45) fa_26 hm_12 d12_45 rfl (go_iloadN (pc := 48) d12_48 rfl (go_iload (pc := 49) d12_49 rfl (go_aloadN (pc := 51) d12_51 rfl (go_getA (pc := 52) fa_20 hm_12 d12_52 rfl ?_)))))))
  refine go_iloadN (pc := 55) d12_55 rfl ?_
  obtain ⟨a56, e5, hf⟩ := Option.bind_eq_some_iff.mp hf
  refine go_iaload (pc := 56) (q := 1) ar_1 rfl e5 d12_56 ?_
  refine go_iconst (pc := 57) d12_57 ci_m1 (go_ixor (pc := 58) d12_58 (go_iand (pc := 59) d12_59 ?_))
  obtain ⟨a60, e6, hf⟩ := Option.bind_eq_some_iff.mp hf
  refine go_iastore (pc := 60) (q := 3) ar_3 rfl hn_12 e6 d12_60 ?_
  refine go_aloadN (pc := 61) d12_61 rfl ?_
  obtain ⟨r62, e7, hf⟩ := Option.bind_eq_some_iff.mp hf
  refine go_priv (pc := 62) (i := 0) (as := []) (rest := []) (w' := (none, [(9, r62)])) lk_0_111 pd_11 rfl oid_0 rfl rfl rfl rfl rfl rfl ⟨rfl, rfl, rfl, rfl, rfl⟩ d12_62 (c_k_propagateAdditions (sA r31 3 a60) _ e7) ?_
  cases hf
  exact go_ret (pc := 65) rfl d12_65
theorem c_k_addEdgeAndPropagate (v1 : Int32) (v2 : Int32) (s : S) (o : S) (hf : k_addEdgeAndPropagate v1 v2 s = some o) : Call PP m12 [.ref 1, .int v1, .int v2] (none, [(9, s)]) (none, (none, [(9, o)])) := call_of_go pl_0 rfl (fun _ => rfl) (k_addEdgeAndPropagate_ok v1 v2 s   _ hf)
set_option maxRecDepth 65536 in
set_option maxHeartbeats 4000000 in
theorem k_popCount_30_ok  {s : S} : ∀ (v2 : Int32)  (x1 : Slot) (hx1 : k1 x1) (o : Int32), k_popCount_30 v2 = o → Go PP m13 30 [.val (.ref 1), x1, .val (.int v2)] [] (none, [(9, s)]) (some (.int o), (none, [(9, s)])) := by
  intro v2 x1 hx1 o hf
  unfold k_popCount_30 at hf
  refine go_iloadN (pc := 30) d13_30 rfl (go_ldc (pc := 31) (v := (16843009 : Int32)) d13_31 (List.mem_of_getElem? (i := 83) rfl) (go_imul (pc := 33) d13_33 (go_bipush (pc := 34) d13_34 cb_24 (go_iushr (pc := 36) d13_36 ?_))))
  cases hf
  exact go_iret (pc := 37) rfl d13_37
set_option maxRecDepth 65536 in
set_option maxHeartbeats 4000000 in
theorem k_popCount_ok  {s : S} : ∀ (v1 : Int32)   (o : Int32), k_popCount v1 = o → Go PP m13 0 [.val (.ref 1), .val (.int v1), .unset] [] (none, [(9, s)]) (some (.int o), (none, [(9, s)])) := by
  intro v1 o hf
  unfold k_popCount at hf
  refine go_iloadN (pc := 0) d13_0 rfl (go_iloadN (pc := 1) d13_1 rfl (go_iconst (pc := 2) d13_2 ci_1 (go_iushr (pc := 3) d13_3 (go_ldc (pc := 4) (v := (1431655765 : Int32)) d13_4 (List.mem_of_getElem? (i := 80) rfl) (go_iand (pc := 6) d13_6 (go_isub (pc := 7) d13_7 (go_istoreN (pc := 8) (L' := [.val (.ref 1), .val (.int v1), .val (.int (v1 - ((XT.ushr v1 (1 : Int32)) &&& (1431655765 : Int32))))]) d13_8 rfl ?_)))))))
  refine go_iloadN (pc := 9) d13_9 rfl (go_ldc (pc := 10) (v := (858993459 : Int32)) d13_10 (List.mem_of_getElem? (i := 81) rfl) (go_iand (pc := 12) d13_12 (go_iloadN (pc := 13) d13_13 rfl (go_iconst (pc := 14) d13_14 ci_2 (go_iushr (pc := 15) d13_15 (go_ldc (pc := 16) (v := (858993459 : Int32)) d13_16 (List.mem_of_getElem? (i := 81) rfl) (go_iand (pc := 18) d13_18 ?_)))))))
  refine go_iadd (pc := 19) d13_19 (go_istoreN (pc := 20) (L' := [.val (.ref 1), .val (.int v1), .val (.int (((v1 - ((XT.ushr v1 (1 : Int32)) &&& (1431655765 : Int32))) &&& (858993459 : Int32)) + ((XT.ushr (v1 - ((XT.ushr v1 (1 : Int32)) &&& (1431655765 : Int32))) (2 : Int32)) &&& (858993459 : Int32))))]) d13_20 rfl (go_iloadN (pc := 21) d13_21 rfl (go_iloadN (pc := 22) d13_22 rfl (go_iconst (pc := 23) d13_23 ci_4 (go_iushr (pc := 24) d13_24 (go_iadd (pc := 25) d13_25 (go_ldc (pc := 26) (v := (252645135 : Int32)) d13_26 (List.mem_of_getElem? (i := 82) rfl) ?_)))))))
  refine go_iand (pc := 28) d13_28 (go_istoreN (pc := 29) (L' := [.val (.ref 1), .val (.int v1), .val (.int (((((v1 - ((XT.ushr v1 (1 : Int32)) &&& (1431655765 : Int32))) &&& (858993459 : Int32)) + ((XT.ushr (v1 - ((XT.ushr v1 (1 : Int32)) &&& (1431655765 : Int32))) (2 : Int32)) &&& (858993459 : Int32))) + (XT.ushr (((v1 - ((XT.ushr v1 (1 : Int32)) &&& (1431655765 : Int32))) &&& (858993459 : Int32)) + ((XT.ushr (v1 - ((XT.ushr v1 (1 : Int32)) &&& (1431655765 : Int32))) (2 : Int32)) &&& (858993459 : Int32))) (4 : Int32))) &&& (252645135 : Int32)))]) d13_29 rfl ?_)
  exact k_popCount_30_ok (((((v1 - ((XT.ushr v1 (1 : Int32)) &&& (1431655765 : Int32))) &&& (858993459 : Int32)) + ((XT.ushr (v1 - ((XT.ushr v1 (1 : Int32)) &&& (1431655765 : Int32))) (2 : Int32)) &&& (858993459 : Int32))) + (XT.ushr (((v1 - ((XT.ushr v1 (1 : Int32)) &&& (1431655765 : Int32))) &&& (858993459 : Int32)) + ((XT.ushr (v1 - ((XT.ushr v1 (1 : Int32)) &&& (1431655765 : Int32))) (2 : Int32)) &&& (858993459 : Int32))) (4 : Int32))) &&& (252645135 : Int32)) (.val (.int v1)) (Or.inr ⟨_, rfl, rfl⟩) _ hf
theorem c_k_popCount (v1 : Int32) (s : S) : Call PP m13 [.ref 1, .int v1] (none, [(9, s)]) (some (.int (k_popCount v1)), (none, [(9, s)])) := call_of_go pl_0 rfl (fun h => nomatch h) (k_popCount_ok v1   _ rfl)
set_option maxRecDepth 65536 in
set_option maxHeartbeats 4000000 in
theorem k_countAdded_4_ok  : ∀ (n : Nat) (v1 : Int32) (v2 : Int32) (s : S)  (o : Int32), k_countAdded_4 n v1 v2 s = some o → Go PP m14 4 [.val (.ref 1), .val (.int v1), .val (.int v2)] [] (none, [(9, s)]) (some (.int o), (none, [(9, s)])) := by
  intro n
  induction n with
  | zero => intro v1 v2 s o hf; exact nomatch hf
  | succ n ih =>
    intro v1 v2 s o hf
    unfold k_countAdded_4 at hf
    refine go_iloadN (pc := 4) d14_4 rfl (go_aloadN (pc := 5) d14_5 rfl (go_getI (pc := 6) fs_44 hm_14 d14_6 ?_))
    by_cases h1 : v2 < (gI s 2)
    · replace hf := (if_pos h1).symm.trans hf
      refine go_icN (pc := 9) d14_9 (XT.ii_ge_f h1) ?_
      refine go_iloadN (pc := 12) d14_12 rfl (go_aloadN (pc := 13) d14_13 rfl (go_aloadN (pc := 14) d14_14 rfl (go_getA (pc := 15) fa_20 hm_14 d14_15 rfl (go_iloadN (pc := 18) d14_18 rfl ?_))))
      obtain ⟨a19, e2, hf⟩ := Option.bind_eq_some_iff.mp hf
      refine go_iaload (pc := 19) (q := 1) ar_1 rfl e2 d14_19 ?_
      refine go_aloadN (pc := 20) d14_20 rfl (go_getA (pc := 21) fa_23 hm_14 d14_21 rfl (go_iloadN (pc := 24) d14_24 rfl ?_))
      obtain ⟨a25, e3, hf⟩ := Option.bind_eq_some_iff.mp hf
      refine go_iaload (pc := 25) (q := 2) ar_2 rfl e3 d14_25 ?_
      refine go_iconst (pc := 26) d14_26 ci_m1 (go_ixor (pc := 27) d14_27 (go_iand (pc := 28) d14_28 ?_))
      refine go_priv (pc := 29) (i := 0) (as := [.int (a19 &&& (a25 ^^^ (-1 : Int32)))]) (rest := [.int v1]) (w' := (none, [(9, s)])) lk_0_101 pd_13 rfl oid_0 rfl rfl rfl rfl rfl rfl ⟨rfl, rfl, rfl, rfl, rfl⟩ d14_29 (c_k_popCount (a19 &&& (a25 ^^^ (-1 : Int32))) s) ?_
      refine go_iadd (pc := 32) d14_32 (go_istoreN (pc := 33) (L' := [.val (.ref 1), .val (.int (v1 + (k_popCount (a19 &&& (a25 ^^^ (-1 : Int32)))))), .val (.int v2)]) d14_33 rfl (go_iinc (pc := 34) (L' := [.val (.ref 1), .val (.int (v1 + (k_popCount (a19 &&& (a25 ^^^ (-1 : Int32)))))), .val (.int (v2 + (1 : Int32)))]) d14_34 rfl ci_1 rfl (go_goto (pc := 37) (pc' := 4) d14_37 j_37_m33 ?_)))
      exact ih (v1 + (k_popCount (a19 &&& (a25 ^^^ (-1 : Int32))))) (v2 + (1 : Int32)) s _ hf
    · replace hf := (if_neg h1).symm.trans hf
      refine go_icY (pc := 9) (pc' := 40) d14_9 (XT.ii_ge_t h1) j_9_31 ?_
      refine go_iloadN (pc := 40) d14_40 rfl ?_
      cases hf
      exact go_iret (pc := 41) rfl d14_41
set_option maxRecDepth 65536 in
set_option maxHeartbeats 4000000 in
theorem k_countAdded_ok  : ∀  (s : S)  (o : Int32), k_countAdded s = some o → Go PP m14 0 [.val (.ref 1), .unset, .unset] [] (none, [(9, s)]) (some (.int o), (none, [(9, s)])) := by
  intro s o hf
  unfold k_countAdded at hf
  refine go_iconst (pc := 0) d14_0 ci_0 (go_istoreN (pc := 1) (L' := [.val (.ref 1), .val (.int (0 : Int32)), .unset]) d14_1 rfl (go_iconst (pc := 2) d14_2 ci_0 (go_istoreN (pc := 3) (L' := [.val (.ref 1), .val (.int (0 : Int32)), .val (.int (0 : Int32))]) d14_3 rfl ?_)))
  exact k_countAdded_4_ok BIG (0 : Int32) (0 : Int32) s _ hf
theorem c_k_countAdded (s : S) (o : Int32) (hf : k_countAdded s = some o) : Call PP m14 [.ref 1] (none, [(9, s)]) (some (.int o), (none, [(9, s)])) := call_of_go pl_0 rfl (fun h => nomatch h) (k_countAdded_ok s   _ hf)
set_option maxRecDepth 65536 in
set_option maxHeartbeats 4000000 in
theorem k_insertEdge_ok  : ∀ (v1 : Int32) (v2 : Int32) (s : S)  (o : Int32 × S), k_insertEdge v1 v2 s = some o → Go PP m15 0 [.val (.ref 1), .val (.int v1), .val (.int v2)] [] (none, [(9, s)]) (some (.int o.1), (none, [(9, o.2)])) := by
  intro v1 v2 s o hf
  unfold k_insertEdge at hf
  refine go_aloadN (pc := 0) d15_0 rfl (go_iloadN (pc := 1) d15_1 rfl ?_)
  refine go_priv (pc := 2) (i := 0) (as := [.int v1]) (rest := []) (w' := (none, [(9, s)])) lk_0_65 pd_2 rfl oid_0 rfl rfl rfl rfl rfl rfl ⟨rfl, rfl, rfl, rfl, rfl⟩ d15_2 (c_k_isValid v1 s) ?_
  by_cases h1 : (k_isValid v1 s) = 0
  · replace hf := (if_pos h1).symm.trans hf
    refine go_ifY (pc := 5) (pc' := 16) d15_5 (XT.i0_eq_t h1) j_5_11 ?_
    refine go_iconst (pc := 16) d15_16 ci_m1 ?_
    cases hf
    exact go_iret (pc := 17) rfl d15_17
  · replace hf := (if_neg h1).symm.trans hf
    refine go_ifN (pc := 5) d15_5 (XT.i0_eq_f h1) ?_
    refine go_aloadN (pc := 8) d15_8 rfl (go_iloadN (pc := 9) d15_9 rfl ?_)
    refine go_priv (pc := 10) (i := 0) (as := [.int v2]) (rest := []) (w' := (none, [(9, s)])) lk_0_65 pd_2 rfl oid_0 rfl rfl rfl rfl rfl rfl ⟨rfl, rfl, rfl, rfl, rfl⟩ d15_10 (c_k_isValid v2 s) ?_
    by_cases h2 : (k_isValid v2 s) = 0
    · replace hf := (if_pos h2).symm.trans hf
      refine go_ifN (pc := 13) d15_13 (XT.i0_ne_f h2) ?_
      refine go_iconst (pc := 16) d15_16 ci_m1 ?_
      cases hf
      exact go_iret (pc := 17) rfl d15_17
    · replace hf := (if_neg h2).symm.trans hf
      refine go_ifY (pc := 13) (pc' := 18) d15_13 (XT.i0_ne_t h2) j_13_5 ?_
      refine go_aloadN (pc := 18) d15_18 rfl (go_iloadN (pc := 19) d15_19 rfl (go_iloadN (pc := 20) d15_20 rfl ?_))
      obtain ⟨r21, e3, hf⟩ := Option.bind_eq_some_iff.mp hf
      refine go_priv (pc := 21) (i := 0) (as := [.int v1, .int v2]) (rest := []) (w' := (none, [(9, s)])) lk_0_69 pd_3 rfl oid_0 rfl rfl rfl rfl rfl rfl ⟨rfl, rfl, rfl, rfl, rfl⟩ d15_21 (c_k_edgePresent v1 v2 s _ e3) ?_
      by_cases h4 : r21 = 0
      · replace hf := (if_pos h4).symm.trans hf
        refine go_ifY (pc := 24) (pc' := 30) d15_24 (XT.i0_eq_t h4) j_24_6 ?_
        refine go_aloadN (pc := 30) d15_30 rfl (go_getI (pc := 31) fs_53 hm_15 d15_31 (go_aloadN (pc := 34) d15_34 rfl (go_getI (pc := 35) fs_47 hm_15 d15_35 ?_)))
        by_cases h5 : (gI s 5) = (gI s 3)
        · replace hf := (if_pos h5).symm.trans hf
          refine go_icN (pc := 38) d15_38 (XT.ii_ne_f h5) ?_
          refine go_bipush (pc := 41) d15_41 cb_m4 ?_
          cases hf
          exact go_iret (pc := 43) rfl d15_43
        · replace hf := (if_neg h5).symm.trans hf
          refine go_icY (pc := 38) (pc' := 44) d15_38 (XT.ii_ne_t h5) j_38_6 ?_
          refine go_aloadN (pc := 44) d15_44 rfl ?_
          obtain ⟨r45, e6, hf⟩ := Option.bind_eq_some_iff.mp hf
          refine go_priv (pc := 45) (i := 0) (as := []) (rest := []) (w' := (none, [(9, r45)])) lk_0_73 pd_4 rfl oid_0 rfl rfl rfl rfl rfl rfl ⟨rfl, rfl, rfl, rfl, rfl⟩ d15_45 (c_k_takeSnapshot s _ e6) ?_
          refine go_aloadN (pc := 48) d15_48 rfl (go_iloadN (pc := 49) d15_49 rfl (go_iloadN (pc := 50) d15_50 rfl ?_))
          obtain ⟨r51, e7, hf⟩ := Option.bind_eq_some_iff.mp hf
          refine go_priv (pc := 51) (i := 0) (as := [.int v1, .int v2]) (rest := []) (w' := (none, [(9, r51)])) lk_0_76 pd_12 rfl oid_0 rfl rfl rfl rfl rfl rfl ⟨rfl, rfl, rfl, rfl, rfl⟩ d15_51 (c_k_addEdgeAndPropagate v1 v2 r45 _ e7) ?_
          refine go_aloadN (pc := 54) d15_54 rfl (go_aloadN (pc := 55) d15_55 rfl ?_)
          obtain ⟨r56, e8, hf⟩ := Option.bind_eq_some_iff.mp hf
          refine go_priv (pc := 56) (i := 0) (as := []) (rest := [.ref 1]) (w' := (none, [(9, r51)])) lk_0_80 pd_14 rfl oid_0 rfl rfl rfl rfl rfl rfl ⟨rfl, rfl, rfl, rfl, rfl⟩ d15_56 (c_k_countAdded r51 _ e8) ?_
          refine go_putI (pc := 59) fs_59 hm_15 (wr_7 _) hn_15 d15_59 (go_aloadN (pc := 62) d15_62 rfl (go_iconst (pc := 63) d15_63 ci_0 (go_putI (pc := 64) fs_62 hm_15 (wr_8 _) hn_15 d15_64 (go_aloadN (pc := 67) d15_67 rfl (go_getI (pc := 68) fs_59 hm_15 d15_68 ?_)))))
          cases hf
          exact go_iret (pc := 71) rfl d15_71
      · replace hf := (if_neg h4).symm.trans hf
        refine go_ifN (pc := 24) d15_24 (XT.i0_eq_f h4) ?_
        refine go_bipush (pc := 27) d15_27 cb_m2 ?_
        cases hf
        exact go_iret (pc := 29) rfl d15_29
theorem c_k_insertEdge (v1 : Int32) (v2 : Int32) (s : S) (o : Int32 × S) (hf : k_insertEdge v1 v2 s = some o) : Call PP m15 [.ref 1, .int v1, .int v2] (none, [(9, s)]) (some (.int o.1), (none, [(9, o.2)])) := call_of_go pl_0 rfl (fun h => nomatch h) (k_insertEdge_ok v1 v2 s   _ hf)
set_option maxRecDepth 65536 in
set_option maxHeartbeats 4000000 in
theorem k_testBit_ok  {s : S} : ∀ (v1 : Int32) (v2 : Int32)   (o : Int32), k_testBit v1 v2 = o → Go PP m17 0 [.val (.ref 1), .val (.int v1), .val (.int v2)] [] (none, [(9, s)]) (some (.int o), (none, [(9, s)])) := by
  intro v1 v2 o hf
  unfold k_testBit at hf
  refine go_iloadN (pc := 0) d17_0 rfl (go_iloadN (pc := 1) d17_1 rfl (go_iushr (pc := 2) d17_2 (go_iconst (pc := 3) d17_3 ci_1 (go_iand (pc := 4) d17_4 ?_))))
  by_cases h1 : ((XT.ushr v1 v2) &&& (1 : Int32)) = 0
  · replace hf := (if_pos h1).symm.trans hf
    refine go_ifY (pc := 5) (pc' := 12) d17_5 (XT.i0_eq_t h1) j_5_7 ?_
    refine go_iconst (pc := 12) d17_12 ci_0 ?_
    cases hf
    exact go_zret (pc := 13) rfl d17_13 (show (0 : Int32) = nar .boolean (0 : Int32) by decide)
  · replace hf := (if_neg h1).symm.trans hf
    refine go_ifN (pc := 5) d17_5 (XT.i0_eq_f h1) ?_
    refine go_iconst (pc := 8) d17_8 ci_1 (go_goto (pc := 9) (pc' := 13) d17_9 j_9_4 ?_)
    cases hf
    exact go_zret (pc := 13) rfl d17_13 (show (1 : Int32) = nar .boolean (1 : Int32) by decide)
theorem c_k_testBit (v1 : Int32) (v2 : Int32) (s : S) : Call PP m17 [.ref 1, .int v1, .int v2] (none, [(9, s)]) (some (.int (k_testBit v1 v2)), (none, [(9, s)])) := call_of_go pl_0 rfl (fun h => nomatch h) (k_testBit_ok v1 v2   _ rfl)
set_option maxRecDepth 65536 in
set_option maxHeartbeats 4000000 in
theorem k_reaches_ok  : ∀ (v1 : Int32) (v2 : Int32) (s : S)  (o : Int32), k_reaches v1 v2 s = some o → Go PP m18 0 [.val (.ref 1), .val (.int v1), .val (.int v2)] [] (none, [(9, s)]) (some (.int o), (none, [(9, s)])) := by
  intro v1 v2 s o hf
  unfold k_reaches at hf
  refine go_aloadN (pc := 0) d18_0 rfl (go_iloadN (pc := 1) d18_1 rfl ?_)
  refine go_priv (pc := 2) (i := 0) (as := [.int v1]) (rest := []) (w' := (none, [(9, s)])) lk_0_65 pd_2 rfl oid_0 rfl rfl rfl rfl rfl rfl ⟨rfl, rfl, rfl, rfl, rfl⟩ d18_2 (c_k_isValid v1 s) ?_
  by_cases h1 : (k_isValid v1 s) = 0
  · replace hf := (if_pos h1).symm.trans hf
    refine go_ifY (pc := 5) (pc' := 16) d18_5 (XT.i0_eq_t h1) j_5_11 ?_
    refine go_iconst (pc := 16) d18_16 ci_0 ?_
    cases hf
    exact go_zret (pc := 17) rfl d18_17 (show (0 : Int32) = nar .boolean (0 : Int32) by decide)
  · replace hf := (if_neg h1).symm.trans hf
    refine go_ifN (pc := 5) d18_5 (XT.i0_eq_f h1) ?_
    refine go_aloadN (pc := 8) d18_8 rfl (go_iloadN (pc := 9) d18_9 rfl ?_)
    refine go_priv (pc := 10) (i := 0) (as := [.int v2]) (rest := []) (w' := (none, [(9, s)])) lk_0_65 pd_2 rfl oid_0 rfl rfl rfl rfl rfl rfl ⟨rfl, rfl, rfl, rfl, rfl⟩ d18_10 (c_k_isValid v2 s) ?_
    by_cases h2 : (k_isValid v2 s) = 0
    · replace hf := (if_pos h2).symm.trans hf
      refine go_ifN (pc := 13) d18_13 (XT.i0_ne_f h2) ?_
      refine go_iconst (pc := 16) d18_16 ci_0 ?_
      cases hf
      exact go_zret (pc := 17) rfl d18_17 (show (0 : Int32) = nar .boolean (0 : Int32) by decide)
    · replace hf := (if_neg h2).symm.trans hf
      refine go_ifY (pc := 13) (pc' := 18) d18_13 (XT.i0_ne_t h2) j_13_5 ?_
      refine go_aloadN (pc := 18) d18_18 rfl (go_aloadN (pc := 19) d18_19 rfl (go_getA (pc := 20) fa_20 hm_18 d18_20 rfl (go_iloadN (pc := 23) d18_23 rfl ?_)))
      obtain ⟨a24, e3, hf⟩ := Option.bind_eq_some_iff.mp hf
      refine go_iaload (pc := 24) (q := 1) ar_1 rfl e3 d18_24 ?_
      refine go_iloadN (pc := 25) d18_25 rfl ?_
      refine go_priv (pc := 26) (i := 0) (as := [.int a24, .int v2]) (rest := []) (w' := (none, [(9, s)])) lk_0_98 pd_17 rfl oid_0 rfl rfl rfl rfl rfl rfl ⟨rfl, rfl, rfl, rfl, rfl⟩ d18_26 (c_k_testBit a24 v2 s) ?_
      cases hf
      exact go_zret (pc := 29) rfl d18_29 rfl
theorem c_k_reaches (v1 : Int32) (v2 : Int32) (s : S) (o : Int32) (hf : k_reaches v1 v2 s = some o) : Call PP m18 [.ref 1, .int v1, .int v2] (none, [(9, s)]) (some (.int o), (none, [(9, s)])) := call_of_go pl_0 rfl (fun h => nomatch h) (k_reaches_ok v1 v2 s   _ hf)
set_option maxRecDepth 65536 in
set_option maxHeartbeats 4000000 in
theorem k_derivationCount_43_ok  : ∀ (n : Nat) (v2 : Int32) (v3 : Int32) (v4 : Int32) (v5 : Int32) (s : S) (x1 : Slot) (hx1 : k1 x1) (o : Int32), k_derivationCount_43 n v2 v3 v4 v5 s = some o → Go PP m19 43 [.val (.ref 1), x1, .val (.int v2), .val (.int v3), .val (.int v4), .val (.int v5)] [] (none, [(9, s)]) (some (.int o), (none, [(9, s)])) := by
  intro n
  induction n with
  | zero => intro v2 v3 v4 v5 s x1 hx1 o hf; exact nomatch hf
  | succ n ih =>
    intro v2 v3 v4 v5 s x1 hx1 o hf
    unfold k_derivationCount_43 at hf
    refine go_iload (pc := 43) d19_43 rfl (go_aloadN (pc := 45) d19_45 rfl (go_getI (pc := 46) fs_44 hm_19 d19_46 ?_))
    by_cases h1 : v5 < (gI s 2)
    · replace hf := (if_pos h1).symm.trans hf
      refine go_icN (pc := 49) d19_49 (XT.ii_ge_f h1) ?_
      refine go_iloadN (pc := 52) d19_52 rfl (go_iload (pc := 53) d19_53 rfl (go_iushr (pc := 55) d19_55 (go_iconst (pc := 56) d19_56 ci_1 (go_iand (pc := 57) d19_57 ?_))))
      by_cases h2 : ((XT.ushr v3 v5) &&& (1 : Int32)) = 0
      · replace hf := (if_pos h2).symm.trans hf
        refine go_ifY (pc := 58) (pc' := 78) d19_58 (XT.i0_eq_t h2) j_58_20 ?_
        refine go_iinc (pc := 78) (L' := [.val (.ref 1), x1, .val (.int v2), .val (.int v3), .val (.int v4), .val (.int (v5 + (1 : Int32)))]) d19_78 rfl ci_1 rfl (go_goto (pc := 81) (pc' := 43) d19_81 j_81_m38 ?_)
        exact ih v2 v3 v4 (v5 + (1 : Int32)) s x1 hx1 _ hf
      · replace hf := (if_neg h2).symm.trans hf
        refine go_ifN (pc := 58) d19_58 (XT.i0_eq_f h2) ?_
        refine go_aloadN (pc := 61) d19_61 rfl (go_getA (pc := 62) fa_20 hm_19 d19_62 rfl (go_iload (pc := 65) d19_65 rfl ?_))
        obtain ⟨a67, e3, hf⟩ := Option.bind_eq_some_iff.mp hf
        refine go_iaload (pc := 67) (q := 1) ar_1 rfl e3 d19_67 ?_
        refine go_iloadN (pc := 68) d19_68 rfl (go_iushr (pc := 69) d19_69 (go_iconst (pc := 70) d19_70 ci_1 (go_iand (pc := 71) d19_71 ?_)))
        by_cases h4 : ((XT.ushr a67 v2) &&& (1 : Int32)) = 0
        · refine go_ifY (pc := 72) (pc' := 78) d19_72 (XT.i0_eq_t h4) j_72_6 ?_
          refine go_iinc (pc := 78) (L' := [.val (.ref 1), x1, .val (.int v2), .val (.int v3), .val (.int v4), .val (.int (v5 + (1 : Int32)))]) d19_78 rfl ci_1 rfl (go_goto (pc := 81) (pc' := 43) d19_81 j_81_m38 ?_)
          exact ih v2 v3 v4 (v5 + (1 : Int32)) s x1 hx1 _ (by simpa only [if_pos h4] using hf)
        · refine go_ifN (pc := 72) d19_72 (XT.i0_eq_f h4) ?_
          refine go_iinc (pc := 75) (L' := [.val (.ref 1), x1, .val (.int v2), .val (.int v3), .val (.int (v4 + (1 : Int32))), .val (.int v5)]) d19_75 rfl ci_1 rfl (go_iinc (pc := 78) (L' := [.val (.ref 1), x1, .val (.int v2), .val (.int v3), .val (.int (v4 + (1 : Int32))), .val (.int (v5 + (1 : Int32)))]) d19_78 rfl ci_1 rfl (go_goto (pc := 81) (pc' := 43) d19_81 j_81_m38 ?_))
          exact ih v2 v3 (v4 + (1 : Int32)) (v5 + (1 : Int32)) s x1 hx1 _ (by simpa only [if_neg h4] using hf)
    · replace hf := (if_neg h1).symm.trans hf
      refine go_icY (pc := 49) (pc' := 84) d19_49 (XT.ii_ge_t h1) j_49_35 ?_
      refine go_iload (pc := 84) d19_84 rfl ?_
      cases hf
      exact go_iret (pc := 86) rfl d19_86
set_option maxRecDepth 65536 in
set_option maxHeartbeats 4000000 in
theorem k_derivationCount_40_ok  : ∀ (v2 : Int32) (v3 : Int32) (v4 : Int32) (s : S) (x1 : Slot) (hx1 : k1 x1) (o : Int32), k_derivationCount_40 v2 v3 v4 s = some o → Go PP m19 40 [.val (.ref 1), x1, .val (.int v2), .val (.int v3), .val (.int v4), .unset] [] (none, [(9, s)]) (some (.int o), (none, [(9, s)])) := by
  intro v2 v3 v4 s x1 hx1 o hf
  unfold k_derivationCount_40 at hf
  refine go_iconst (pc := 40) d19_40 ci_0 (go_istore (pc := 41) (L' := [.val (.ref 1), x1, .val (.int v2), .val (.int v3), .val (.int v4), .val (.int (0 : Int32))]) d19_41 rfl ?_)
  exact k_derivationCount_43_ok BIG v2 v3 v4 (0 : Int32) s x1 hx1 _ hf
set_option maxRecDepth 65536 in
set_option maxHeartbeats 4000000 in
theorem k_derivationCount_ok  : ∀ (v1 : Int32) (v2 : Int32) (s : S)  (o : Int32), k_derivationCount v1 v2 s = some o → Go PP m19 0 [.val (.ref 1), .val (.int v1), .val (.int v2), .unset, .unset, .unset] [] (none, [(9, s)]) (some (.int o), (none, [(9, s)])) := by
  intro v1 v2 s o hf
  unfold k_derivationCount at hf
  refine go_aloadN (pc := 0) d19_0 rfl (go_iloadN (pc := 1) d19_1 rfl ?_)
  refine go_priv (pc := 2) (i := 0) (as := [.int v1]) (rest := []) (w' := (none, [(9, s)])) lk_0_65 pd_2 rfl oid_0 rfl rfl rfl rfl rfl rfl ⟨rfl, rfl, rfl, rfl, rfl⟩ d19_2 (c_k_isValid v1 s) ?_
  by_cases h1 : (k_isValid v1 s) = 0
  · replace hf := (if_pos h1).symm.trans hf
    refine go_ifY (pc := 5) (pc' := 16) d19_5 (XT.i0_eq_t h1) j_5_11 ?_
    refine go_iconst (pc := 16) d19_16 ci_m1 ?_
    cases hf
    exact go_iret (pc := 17) rfl d19_17
  · replace hf := (if_neg h1).symm.trans hf
    refine go_ifN (pc := 5) d19_5 (XT.i0_eq_f h1) ?_
    refine go_aloadN (pc := 8) d19_8 rfl (go_iloadN (pc := 9) d19_9 rfl ?_)
    refine go_priv (pc := 10) (i := 0) (as := [.int v2]) (rest := []) (w' := (none, [(9, s)])) lk_0_65 pd_2 rfl oid_0 rfl rfl rfl rfl rfl rfl ⟨rfl, rfl, rfl, rfl, rfl⟩ d19_10 (c_k_isValid v2 s) ?_
    by_cases h2 : (k_isValid v2 s) = 0
    · replace hf := (if_pos h2).symm.trans hf
      refine go_ifN (pc := 13) d19_13 (XT.i0_ne_f h2) ?_
      refine go_iconst (pc := 16) d19_16 ci_m1 ?_
      cases hf
      exact go_iret (pc := 17) rfl d19_17
    · replace hf := (if_neg h2).symm.trans hf
      refine go_ifY (pc := 13) (pc' := 18) d19_13 (XT.i0_ne_t h2) j_13_5 ?_
      refine go_aloadN (pc := 18) d19_18 rfl (go_getA (pc := 19) fa_16 hm_19 d19_19 rfl (go_iloadN (pc := 22) d19_22 rfl ?_))
      obtain ⟨a23, e3, hf⟩ := Option.bind_eq_some_iff.mp hf
      refine go_iaload (pc := 23) (q := 0) ar_0 rfl e3 d19_23 ?_
      refine go_istoreN (pc := 24) (L' := [.val (.ref 1), .val (.int v1), .val (.int v2), .val (.int a23), .unset, .unset]) d19_24 rfl (go_iconst (pc := 25) d19_25 ci_0 (go_istore (pc := 26) (L' := [.val (.ref 1), .val (.int v1), .val (.int v2), .val (.int a23), .val (.int (0 : Int32)), .unset]) d19_26 rfl (go_aloadN (pc := 28) d19_28 rfl (go_iloadN (pc := 29) d19_29 rfl (go_iloadN (pc := 30) d19_30 rfl ?_)))))
      refine go_priv (pc := 31) (i := 0) (as := [.int a23, .int v2]) (rest := []) (w' := (none, [(9, s)])) lk_0_98 pd_17 rfl oid_0 rfl rfl rfl rfl rfl rfl ⟨rfl, rfl, rfl, rfl, rfl⟩ d19_31 (c_k_testBit a23 v2 s) ?_
      by_cases h4 : (k_testBit a23 v2) = 0
      · refine go_ifY (pc := 34) (pc' := 40) d19_34 (XT.i0_eq_t h4) j_34_6 ?_
        exact k_derivationCount_40_ok v2 a23 (0 : Int32) s (.val (.int v1)) (Or.inr ⟨_, rfl, rfl⟩) _ (by simpa only [if_pos h4] using hf)
      · refine go_ifN (pc := 34) d19_34 (XT.i0_eq_f h4) ?_
        refine go_iconst (pc := 37) d19_37 ci_1 (go_istore (pc := 38) (L' := [.val (.ref 1), .val (.int v1), .val (.int v2), .val (.int a23), .val (.int (1 : Int32)), .unset]) d19_38 rfl ?_)
        exact k_derivationCount_40_ok v2 a23 (1 : Int32) s (.val (.int v1)) (Or.inr ⟨_, rfl, rfl⟩) _ (by simpa only [if_neg h4] using hf)
theorem c_k_derivationCount (v1 : Int32) (v2 : Int32) (s : S) (o : Int32) (hf : k_derivationCount v1 v2 s = some o) : Call PP m19 [.ref 1, .int v1, .int v2] (none, [(9, s)]) (some (.int o), (none, [(9, s)])) := call_of_go pl_0 rfl (fun h => nomatch h) (k_derivationCount_ok v1 v2 s   _ hf)
set_option maxRecDepth 65536 in
set_option maxHeartbeats 4000000 in
theorem k_viewSize_4_ok  : ∀ (n : Nat) (v1 : Int32) (v2 : Int32) (s : S)  (o : Int32), k_viewSize_4 n v1 v2 s = some o → Go PP m20 4 [.val (.ref 1), .val (.int v1), .val (.int v2)] [] (none, [(9, s)]) (some (.int o), (none, [(9, s)])) := by
  intro n
  induction n with
  | zero => intro v1 v2 s o hf; exact nomatch hf
  | succ n ih =>
    intro v1 v2 s o hf
    unfold k_viewSize_4 at hf
    refine go_iloadN (pc := 4) d20_4 rfl (go_aloadN (pc := 5) d20_5 rfl (go_getI (pc := 6) fs_44 hm_20 d20_6 ?_))
    by_cases h1 : v2 < (gI s 2)
    · replace hf := (if_pos h1).symm.trans hf
      refine go_icN (pc := 9) d20_9 (XT.ii_ge_f h1) ?_
      refine go_iloadN (pc := 12) d20_12 rfl (go_aloadN (pc := 13) d20_13 rfl (go_aloadN (pc := 14) d20_14 rfl (go_getA (pc := 15) fa_20 hm_20 d20_15 rfl (go_iloadN (pc := 18) d20_18 rfl ?_))))
      obtain ⟨a19, e2, hf⟩ := Option.bind_eq_some_iff.mp hf
      refine go_iaload (pc := 19) (q := 1) ar_1 rfl e2 d20_19 ?_
      refine go_priv (pc := 20) (i := 0) (as := [.int a19]) (rest := [.int v1]) (w' := (none, [(9, s)])) lk_0_101 pd_13 rfl oid_0 rfl rfl rfl rfl rfl rfl ⟨rfl, rfl, rfl, rfl, rfl⟩ d20_20 (c_k_popCount a19 s) ?_
      refine go_iadd (pc := 23) d20_23 (go_istoreN (pc := 24) (L' := [.val (.ref 1), .val (.int (v1 + (k_popCount a19))), .val (.int v2)]) d20_24 rfl (go_iinc (pc := 25) (L' := [.val (.ref 1), .val (.int (v1 + (k_popCount a19))), .val (.int (v2 + (1 : Int32)))]) d20_25 rfl ci_1 rfl (go_goto (pc := 28) (pc' := 4) d20_28 j_28_m24 ?_)))
      exact ih (v1 + (k_popCount a19)) (v2 + (1 : Int32)) s _ hf
    · replace hf := (if_neg h1).symm.trans hf
      refine go_icY (pc := 9) (pc' := 31) d20_9 (XT.ii_ge_t h1) j_9_22 ?_
      refine go_iloadN (pc := 31) d20_31 rfl ?_
      cases hf
      exact go_iret (pc := 32) rfl d20_32
set_option maxRecDepth 65536 in
set_option maxHeartbeats 4000000 in
theorem k_viewSize_ok  : ∀  (s : S)  (o : Int32), k_viewSize s = some o → Go PP m20 0 [.val (.ref 1), .unset, .unset] [] (none, [(9, s)]) (some (.int o), (none, [(9, s)])) := by
  intro s o hf
  unfold k_viewSize at hf
  refine go_iconst (pc := 0) d20_0 ci_0 (go_istoreN (pc := 1) (L' := [.val (.ref 1), .val (.int (0 : Int32)), .unset]) d20_1 rfl (go_iconst (pc := 2) d20_2 ci_0 (go_istoreN (pc := 3) (L' := [.val (.ref 1), .val (.int (0 : Int32)), .val (.int (0 : Int32))]) d20_3 rfl ?_)))
  exact k_viewSize_4_ok BIG (0 : Int32) (0 : Int32) s _ hf
theorem c_k_viewSize (s : S) (o : Int32) (hf : k_viewSize s = some o) : Call PP m20 [.ref 1] (none, [(9, s)]) (some (.int o), (none, [(9, s)])) := call_of_go pl_0 rfl (fun h => nomatch h) (k_viewSize_ok s   _ hf)
set_option maxRecDepth 65536 in
set_option maxHeartbeats 4000000 in
theorem k_edgeCount_ok  : ∀  (s : S)  (o : Int32), k_edgeCount s = o → Go PP m21 0 [.val (.ref 1)] [] (none, [(9, s)]) (some (.int o), (none, [(9, s)])) := by
  intro s o hf
  unfold k_edgeCount at hf
  refine go_aloadN (pc := 0) d21_0 rfl (go_getI (pc := 1) fs_53 hm_21 d21_1 ?_)
  cases hf
  exact go_iret (pc := 4) rfl d21_4
theorem c_k_edgeCount (s : S) : Call PP m21 [.ref 1] (none, [(9, s)]) (some (.int (k_edgeCount s)), (none, [(9, s)])) := call_of_go pl_0 rfl (fun h => nomatch h) (k_edgeCount_ok s   _ rfl)
set_option maxRecDepth 65536 in
set_option maxHeartbeats 4000000 in
theorem h_bit_ok_n1  {y0 : S} : ∀ (v0 : Int32) (v1 : Int32) (v2 : Int32)   (o : Int32), h_bit v0 v1 v2 = o → Go PP m1 0 [.val (.int v0), .val (.int v1), .val (.int v2)] [] (none, [(9, y0)]) (some (.int o), (none, [(9, y0)])) := by
  intro v0 v1 v2 o hf
  unfold h_bit at hf
  refine go_iloadN (pc := 0) d1_0 rfl (go_iloadN (pc := 1) d1_1 rfl (go_iconst (pc := 2) d1_2 ci_3 (go_imul (pc := 3) d1_3 (go_iloadN (pc := 4) d1_4 rfl (go_iadd (pc := 5) d1_5 (go_ishr (pc := 6) d1_6 (go_iconst (pc := 7) d1_7 ci_1 ?_)))))))
  refine go_iand (pc := 8) d1_8 ?_
  cases hf
  exact go_iret (pc := 9) rfl d1_9
theorem c_h_bit_n1 (v0 : Int32) (v1 : Int32) (v2 : Int32) (y0 : S) : Call PP m1 [.int v0, .int v1, .int v2] (none, [(9, y0)]) (some (.int (h_bit v0 v1 v2)), (none, [(9, y0)])) := call_of_go pl_1 rfl (fun h => nomatch h) (h_bit_ok_n1 v0 v1 v2   _ rfl)
def T_h_step_4_n1 (y0 : S) (k4 : Int32 → Int32 → Int32 → Int32 → Option Int32) : Prop := ∀ (v0 : Int32) (v1 : Int32) (v2 : Int32) (v3 : Int32)  (x4 : Slot) (x5 : Slot) (hx4 : k1 x4) (hx5 : k1 x5) (o : Int32), k4 v0 v1 v2 v3 = some o → Go PP m16 4 [.val (.int v0), .val (.int v1), .val (.int v2), .val (.int v3), x4, x5] [] (none, [(9, y0)]) (some (.int o), (none, [(9, y0)]))
def T_h_step_12_n1 (y0 : S) (k12 : Int32 → Int32 → Int32 → Int32 → Int32 → Option Int32) : Prop := ∀ (v0 : Int32) (v1 : Int32) (v2 : Int32) (v3 : Int32) (v4 : Int32)  (x5 : Slot) (hx5 : k1 x5) (o : Int32), k12 v0 v1 v2 v3 v4 = some o → Go PP m16 12 [.val (.int v0), .val (.int v1), .val (.int v2), .val (.int v3), .val (.int v4), x5] [] (none, [(9, y0)]) (some (.int o), (none, [(9, y0)]))
set_option maxRecDepth 65536 in
set_option maxHeartbeats 4000000 in
theorem h_step_21_ok_n1 {k4 : Int32 → Int32 → Int32 → Int32 → Option Int32} {k12 : Int32 → Int32 → Int32 → Int32 → Int32 → Option Int32} {y0 : S} (hk4 : T_h_step_4_n1 y0 k4) (hk12 : T_h_step_12_n1 y0 k12) : ∀ (n : Nat) (v0 : Int32) (v1 : Int32) (v2 : Int32) (v3 : Int32) (v4 : Int32) (v5 : Int32)   (o : Int32), h_step_21 k4 k12 n v0 v1 v2 v3 v4 v5 = some o → Go PP m16 21 [.val (.int v0), .val (.int v1), .val (.int v2), .val (.int v3), .val (.int v4), .val (.int v5)] [] (none, [(9, y0)]) (some (.int o), (none, [(9, y0)])) := by
  intro n
  induction n with
  | zero => intro v0 v1 v2 v3 v4 v5 o hf; exact nomatch hf
  | succ n ih =>
    intro v0 v1 v2 v3 v4 v5 o hf
    unfold h_step_21 at hf
    refine go_iload (pc := 21) d16_21 rfl (go_iconst (pc := 23) d16_23 ci_3 ?_)
    by_cases h1 : v5 < (3 : Int32)
    · replace hf := (if_pos h1).symm.trans hf
      refine go_icN (pc := 24) d16_24 (XT.ii_ge_f h1) ?_
      refine go_iloadN (pc := 27) d16_27 rfl (go_iloadN (pc := 28) d16_28 rfl (go_iload (pc := 29) d16_29 rfl ?_))
      refine go_stat (pc := 31) (as := [.int v0, .int v3, .int v5]) (rest := []) (w' := (none, [(9, y0)])) lk_1_7 pd_1 rfl rfl ⟨Nat.le_of_ble_eq_true rfl, Nat.le_of_ble_eq_true rfl⟩ ⟨rfl, rfl, rfl⟩ ⟨rfl, rfl, rfl, rfl, rfl⟩ d16_31 (c_h_bit_n1 v0 v3 v5 y0) ?_
      refine go_iconst (pc := 34) d16_34 ci_1 ?_
      by_cases h2 : (h_bit v0 v3 v5) = (1 : Int32)
      · refine go_icN (pc := 35) d16_35 (XT.ii_ne_f h2) ?_
        refine go_iloadN (pc := 38) d16_38 rfl (go_iload (pc := 39) d16_39 rfl (go_iload (pc := 41) d16_41 rfl (go_stat (pc := 43) (as := [.int v1, .int v5, .int v4]) (rest := []) (w' := (none, [(9, y0)])) lk_1_7 pd_1 rfl rfl ⟨Nat.le_of_ble_eq_true rfl, Nat.le_of_ble_eq_true rfl⟩ ⟨rfl, rfl, rfl⟩ ⟨rfl, rfl, rfl, rfl, rfl⟩ d16_43 (c_h_bit_n1 v1 v5 v4 y0) (go_iconst (pc := 46) d16_46 ci_1 ?_))))
        by_cases h3 : (h_bit v1 v5 v4) = (1 : Int32)
        · refine go_icN (pc := 47) d16_47 (XT.ii_ne_f h3) ?_
          refine go_iloadN (pc := 50) d16_50 rfl (go_iconst (pc := 51) d16_51 ci_1 (go_iloadN (pc := 52) d16_52 rfl (go_iconst (pc := 53) d16_53 ci_3 (go_imul (pc := 54) d16_54 (go_iload (pc := 55) d16_55 rfl (go_iadd (pc := 57) d16_57 (go_ishl (pc := 58) d16_58 ?_)))))))
          refine go_ior (pc := 59) d16_59 (go_istoreN (pc := 60) (L' := [.val (.int v0), .val (.int v1), .val (.int (v2 ||| ((1 : Int32) <<< (((v3 * (3 : Int32)) + v4) &&& 31)))), .val (.int v3), .val (.int v4), .val (.int v5)]) d16_60 rfl (go_iinc (pc := 61) (L' := [.val (.int v0), .val (.int v1), .val (.int (v2 ||| ((1 : Int32) <<< (((v3 * (3 : Int32)) + v4) &&& 31)))), .val (.int v3), .val (.int v4), .val (.int (v5 + (1 : Int32)))]) d16_61 rfl ci_1 rfl (go_goto (pc := 64) (pc' := 21) d16_64 j_64_m43 ?_)))
          exact ih v0 v1 (v2 ||| ((1 : Int32) <<< (((v3 * (3 : Int32)) + v4) &&& 31))) v3 v4 (v5 + (1 : Int32)) _ (by simpa only [if_pos h2, if_pos h3] using hf)
        · refine go_icY (pc := 47) (pc' := 61) d16_47 (XT.ii_ne_t h3) j_47_14 ?_
          refine go_iinc (pc := 61) (L' := [.val (.int v0), .val (.int v1), .val (.int v2), .val (.int v3), .val (.int v4), .val (.int (v5 + (1 : Int32)))]) d16_61 rfl ci_1 rfl (go_goto (pc := 64) (pc' := 21) d16_64 j_64_m43 ?_)
          exact ih v0 v1 v2 v3 v4 (v5 + (1 : Int32)) _ (by simpa only [if_pos h2, if_neg h3] using hf)
      · refine go_icY (pc := 35) (pc' := 61) d16_35 (XT.ii_ne_t h2) j_35_26 ?_
        refine go_iinc (pc := 61) (L' := [.val (.int v0), .val (.int v1), .val (.int v2), .val (.int v3), .val (.int v4), .val (.int (v5 + (1 : Int32)))]) d16_61 rfl ci_1 rfl (go_goto (pc := 64) (pc' := 21) d16_64 j_64_m43 ?_)
        exact ih v0 v1 v2 v3 v4 (v5 + (1 : Int32)) _ (by simpa only [if_neg h2] using hf)
    · replace hf := (if_neg h1).symm.trans hf
      refine go_icY (pc := 24) (pc' := 67) d16_24 (XT.ii_ge_t h1) j_24_43 ?_
      refine go_iinc (pc := 67) (L' := [.val (.int v0), .val (.int v1), .val (.int v2), .val (.int v3), .val (.int (v4 + (1 : Int32))), .val (.int v5)]) d16_67 rfl ci_1 rfl (go_goto (pc := 70) (pc' := 12) d16_70 j_70_m58 ?_)
      exact hk12 v0 v1 v2 v3 (v4 + (1 : Int32)) (.val (.int v5)) (Or.inr ⟨_, rfl, rfl⟩) _ hf
set_option maxRecDepth 65536 in
set_option maxHeartbeats 4000000 in
theorem h_step_12_ok_n1 {k4 : Int32 → Int32 → Int32 → Int32 → Option Int32} {y0 : S} (hk4 : T_h_step_4_n1 y0 k4) : ∀ (n : Nat) (v0 : Int32) (v1 : Int32) (v2 : Int32) (v3 : Int32) (v4 : Int32)  (x5 : Slot) (hx5 : k1 x5) (o : Int32), h_step_12 k4 n v0 v1 v2 v3 v4 = some o → Go PP m16 12 [.val (.int v0), .val (.int v1), .val (.int v2), .val (.int v3), .val (.int v4), x5] [] (none, [(9, y0)]) (some (.int o), (none, [(9, y0)])) := by
  intro n
  induction n with
  | zero => intro v0 v1 v2 v3 v4 x5 hx5 o hf; exact nomatch hf
  | succ n ih =>
    intro v0 v1 v2 v3 v4 x5 hx5 o hf
    unfold h_step_12 at hf
    refine go_iload (pc := 12) d16_12 rfl (go_iconst (pc := 14) d16_14 ci_3 ?_)
    by_cases h1 : v4 < (3 : Int32)
    · replace hf := (if_pos h1).symm.trans hf
      refine go_icN (pc := 15) d16_15 (XT.ii_ge_f h1) ?_
      refine go_iconst (pc := 18) d16_18 ci_0 (go_istore (pc := 19) (L' := [.val (.int v0), .val (.int v1), .val (.int v2), .val (.int v3), .val (.int v4), .val (.int (0 : Int32))]) d16_19 (stx rfl hx5 rfl) ?_)
      exact h_step_21_ok_n1 hk4 ih BIG v0 v1 v2 v3 v4 (0 : Int32) _ hf
    · replace hf := (if_neg h1).symm.trans hf
      refine go_icY (pc := 15) (pc' := 73) d16_15 (XT.ii_ge_t h1) j_15_58 ?_
      refine go_iinc (pc := 73) (L' := [.val (.int v0), .val (.int v1), .val (.int v2), .val (.int (v3 + (1 : Int32))), .val (.int v4), x5]) d16_73 rfl ci_1 rfl (go_goto (pc := 76) (pc' := 4) d16_76 j_76_m72 ?_)
      exact hk4 v0 v1 v2 (v3 + (1 : Int32)) (.val (.int v4)) x5 (Or.inr ⟨_, rfl, rfl⟩) hx5 _ hf
set_option maxRecDepth 65536 in
set_option maxHeartbeats 4000000 in
theorem h_step_4_ok_n1  {y0 : S} : ∀ (n : Nat) (v0 : Int32) (v1 : Int32) (v2 : Int32) (v3 : Int32)  (x4 : Slot) (x5 : Slot) (hx4 : k1 x4) (hx5 : k1 x5) (o : Int32), h_step_4 n v0 v1 v2 v3 = some o → Go PP m16 4 [.val (.int v0), .val (.int v1), .val (.int v2), .val (.int v3), x4, x5] [] (none, [(9, y0)]) (some (.int o), (none, [(9, y0)])) := by
  intro n
  induction n with
  | zero => intro v0 v1 v2 v3 x4 x5 hx4 hx5 o hf; exact nomatch hf
  | succ n ih =>
    intro v0 v1 v2 v3 x4 x5 hx4 hx5 o hf
    unfold h_step_4 at hf
    refine go_iloadN (pc := 4) d16_4 rfl (go_iconst (pc := 5) d16_5 ci_3 ?_)
    by_cases h1 : v3 < (3 : Int32)
    · replace hf := (if_pos h1).symm.trans hf
      refine go_icN (pc := 6) d16_6 (XT.ii_ge_f h1) ?_
      refine go_iconst (pc := 9) d16_9 ci_0 (go_istore (pc := 10) (L' := [.val (.int v0), .val (.int v1), .val (.int v2), .val (.int v3), .val (.int (0 : Int32)), x5]) d16_10 (stx rfl hx4 rfl) ?_)
      exact h_step_12_ok_n1 ih BIG v0 v1 v2 v3 (0 : Int32) x5 hx5 _ hf
    · replace hf := (if_neg h1).symm.trans hf
      refine go_icY (pc := 6) (pc' := 79) d16_6 (XT.ii_ge_t h1) j_6_73 ?_
      refine go_iloadN (pc := 79) d16_79 rfl ?_
      cases hf
      exact go_iret (pc := 80) rfl d16_80
set_option maxRecDepth 65536 in
set_option maxHeartbeats 4000000 in
theorem h_step_ok_n1  {y0 : S} : ∀ (v0 : Int32) (v1 : Int32)   (o : Int32), h_step v0 v1 = some o → Go PP m16 0 [.val (.int v0), .val (.int v1), .unset, .unset, .unset, .unset] [] (none, [(9, y0)]) (some (.int o), (none, [(9, y0)])) := by
  intro v0 v1 o hf
  unfold h_step at hf
  refine go_iconst (pc := 0) d16_0 ci_0 (go_istoreN (pc := 1) (L' := [.val (.int v0), .val (.int v1), .val (.int (0 : Int32)), .unset, .unset, .unset]) d16_1 rfl (go_iconst (pc := 2) d16_2 ci_0 (go_istoreN (pc := 3) (L' := [.val (.int v0), .val (.int v1), .val (.int (0 : Int32)), .val (.int (0 : Int32)), .unset, .unset]) d16_3 rfl ?_)))
  exact h_step_4_ok_n1 BIG v0 v1 (0 : Int32) (0 : Int32) .unset .unset (Or.inl rfl) (Or.inl rfl) _ hf
theorem c_h_step_n1 (v0 : Int32) (v1 : Int32) (y0 : S) (o : Int32) (hf : h_step v0 v1 = some o) : Call PP m16 [.int v0, .int v1] (none, [(9, y0)]) (some (.int o), (none, [(9, y0)])) := call_of_go pl_1 rfl (fun h => nomatch h) (h_step_ok_n1 v0 v1   _ hf)
set_option maxRecDepth 65536 in
set_option maxHeartbeats 4000000 in
theorem law_255_ok  : ∀ (v3 : Int32) (v4 : Int32) (v6 : Int32) (t0 : S) (x0 : Slot) (x1 : Slot) (x5 : Slot) (x7 : Slot) (x8 : Slot) (x9 : Slot) (x10 : Slot) (x11 : Slot) (hx0 : k1 x0) (hx1 : k1 x1) (hx5 : k1 x5) (hx7 : k1 x7) (hx8 : k1 x8) (hx9 : k1 x9) (hx10 : k1 x10) (hx11 : k1 x11) (o : Int32 × S), law_255 v3 v4 v6 t0 = some o → Go PP m22 255 [x0, x1, .val (.ref 1), .val (.int v3), .val (.int v4), x5, .val (.int v6), x7, x8, x9, x10, x11] [] (none, [(9, t0)]) (some (.int o.1), (none, [(9, o.2)])) := by
  intro v3 v4 v6 t0 x0 x1 x5 x7 x8 x9 x10 x11 hx0 hx1 hx5 hx7 hx8 hx9 hx10 hx11 o hf
  unfold law_255 at hf
  refine go_iloadN (pc := 255) d22_255 rfl (go_iload (pc := 256) d22_256 rfl ?_)
  by_cases h1 : v3 = v6
  · replace hf := (if_pos h1).symm.trans hf
    refine go_icN (pc := 258) d22_258 (XT.ii_ne_f h1) ?_
    refine go_aloadN (pc := 261) d22_261 rfl ?_
    obtain ⟨r262, e2, hf⟩ := Option.bind_eq_some_iff.mp hf
    refine go_virt (pc := 262) (i := 0) (as := []) (rest := []) (w' := (none, [(9, t0)])) lk_1_32 pd_20 rfl oid_0 rfl rfl rfl rfl rfl rfl ⟨rfl, rfl, rfl, rfl, rfl⟩ d22_262 (c_k_viewSize t0 _ e2) ?_
    refine go_iload (pc := 265) d22_265 rfl ?_
    by_cases h3 : r262 = v6
    · replace hf := (if_pos h3).symm.trans hf
      refine go_icN (pc := 267) d22_267 (XT.ii_ne_f h3) ?_
      refine go_aloadN (pc := 270) d22_270 rfl ?_
      refine go_virt (pc := 271) (i := 0) (as := []) (rest := []) (w' := (none, [(9, t0)])) lk_1_36 pd_21 rfl oid_0 rfl rfl rfl rfl rfl rfl ⟨rfl, rfl, rfl, rfl, rfl⟩ d22_271 (c_k_edgeCount t0) ?_
      refine go_iload (pc := 274) d22_274 rfl ?_
      by_cases h4 : (k_edgeCount t0) = v4
      · replace hf := (if_pos h4).symm.trans hf
        refine go_icN (pc := 276) d22_276 (XT.ii_ne_f h4) ?_
        refine go_iconst (pc := 279) d22_279 ci_1 (go_goto (pc := 280) (pc' := 284) d22_280 j_280_4 ?_)
        cases hf
        exact go_zret (pc := 284) rfl d22_284 (show (1 : Int32) = nar .boolean (1 : Int32) by decide)
      · replace hf := (if_neg h4).symm.trans hf
        refine go_icY (pc := 276) (pc' := 283) d22_276 (XT.ii_ne_t h4) j_276_7 ?_
        refine go_iconst (pc := 283) d22_283 ci_0 ?_
        cases hf
        exact go_zret (pc := 284) rfl d22_284 (show (0 : Int32) = nar .boolean (0 : Int32) by decide)
    · replace hf := (if_neg h3).symm.trans hf
      refine go_icY (pc := 267) (pc' := 283) d22_267 (XT.ii_ne_t h3) j_267_16 ?_
      refine go_iconst (pc := 283) d22_283 ci_0 ?_
      cases hf
      exact go_zret (pc := 284) rfl d22_284 (show (0 : Int32) = nar .boolean (0 : Int32) by decide)
  · replace hf := (if_neg h1).symm.trans hf
    refine go_icY (pc := 258) (pc' := 283) d22_258 (XT.ii_ne_t h1) j_258_25 ?_
    refine go_iconst (pc := 283) d22_283 ci_0 ?_
    cases hf
    exact go_zret (pc := 284) rfl d22_284 (show (0 : Int32) = nar .boolean (0 : Int32) by decide)
def T_law_123 (k123 : Int32 → Int32 → Int32 → Int32 → Int32 → Int32 → S → Option (Int32 × S)) : Prop := ∀ (v1 : Int32) (v3 : Int32) (v4 : Int32) (v5 : Int32) (v6 : Int32) (v7 : Int32) (t0 : S) (x0 : Slot) (x8 : Slot) (x9 : Slot) (x10 : Slot) (x11 : Slot) (hx0 : k1 x0) (hx8 : k1 x8) (hx9 : k1 x9) (hx10 : k1 x10) (hx11 : k1 x11) (o : Int32 × S), k123 v1 v3 v4 v5 v6 v7 t0 = some o → Go PP m22 123 [x0, .val (.int v1), .val (.ref 1), .val (.int v3), .val (.int v4), .val (.int v5), .val (.int v6), .val (.int v7), x8, x9, x10, x11] [] (none, [(9, t0)]) (some (.int o.1), (none, [(9, o.2)]))
def T_law_132 (k132 : Int32 → Int32 → Int32 → Int32 → Int32 → Int32 → Int32 → S → Option (Int32 × S)) : Prop := ∀ (v1 : Int32) (v3 : Int32) (v4 : Int32) (v5 : Int32) (v6 : Int32) (v7 : Int32) (v8 : Int32) (t0 : S) (x0 : Slot) (x9 : Slot) (x10 : Slot) (x11 : Slot) (hx0 : k1 x0) (hx9 : k1 x9) (hx10 : k1 x10) (hx11 : k1 x11) (o : Int32 × S), k132 v1 v3 v4 v5 v6 v7 v8 t0 = some o → Go PP m22 132 [x0, .val (.int v1), .val (.ref 1), .val (.int v3), .val (.int v4), .val (.int v5), .val (.int v6), .val (.int v7), .val (.int v8), x9, x10, x11] [] (none, [(9, t0)]) (some (.int o.1), (none, [(9, o.2)]))
set_option maxRecDepth 65536 in
set_option maxHeartbeats 4000000 in
theorem law_228_ok {k123 : Int32 → Int32 → Int32 → Int32 → Int32 → Int32 → S → Option (Int32 × S)} {k132 : Int32 → Int32 → Int32 → Int32 → Int32 → Int32 → Int32 → S → Option (Int32 × S)} (hk123 : T_law_123 k123) (hk132 : T_law_132 k132) : ∀ (v1 : Int32) (v3 : Int32) (v4 : Int32) (v5 : Int32) (v6 : Int32) (v7 : Int32) (v8 : Int32) (v10 : Int32) (t0 : S) (x0 : Slot) (x9 : Slot) (x11 : Slot) (hx0 : k1 x0) (hx9 : k1 x9) (hx11 : k1 x11) (o : Int32 × S), law_228 k123 k132 v1 v3 v4 v5 v6 v7 v8 v10 t0 = some o → Go PP m22 228 [x0, .val (.int v1), .val (.ref 1), .val (.int v3), .val (.int v4), .val (.int v5), .val (.int v6), .val (.int v7), .val (.int v8), x9, .val (.int v10), x11] [] (none, [(9, t0)]) (some (.int o.1), (none, [(9, o.2)])) := by
  intro v1 v3 v4 v5 v6 v7 v8 v10 t0 x0 x9 x11 hx0 hx9 hx11 o hf
  unfold law_228 at hf
  refine go_aloadN (pc := 228) d22_228 rfl (go_iload (pc := 229) d22_229 rfl (go_iload (pc := 231) d22_231 rfl ?_))
  obtain ⟨r233, e1, hf⟩ := Option.bind_eq_some_iff.mp hf
  refine go_virt (pc := 233) (i := 0) (as := [.int v7, .int v8]) (rest := []) (w' := (none, [(9, t0)])) lk_1_29 pd_19 rfl oid_0 rfl rfl rfl rfl rfl rfl ⟨rfl, rfl, rfl, rfl, rfl⟩ d22_233 (c_k_derivationCount v7 v8 t0 _ e1) ?_
  refine go_iload (pc := 236) d22_236 rfl ?_
  by_cases h2 : r233 = v10
  · replace hf := (if_pos h2).symm.trans hf
    refine go_icY (pc := 238) (pc' := 243) d22_238 (XT.ii_eq_t h2) j_238_5 ?_
    refine go_iinc (pc := 243) (L' := [x0, .val (.int v1), .val (.ref 1), .val (.int v3), .val (.int v4), .val (.int v5), .val (.int v6), .val (.int v7), .val (.int (v8 + (1 : Int32))), x9, .val (.int v10), x11]) d22_243 rfl ci_1 rfl (go_goto (pc := 246) (pc' := 132) d22_246 j_246_m114 ?_)
    exact hk132 v1 v3 v4 v5 v6 v7 (v8 + (1 : Int32)) t0 x0 x9 (.val (.int v10)) x11 hx0 hx9 (Or.inr ⟨_, rfl, rfl⟩) hx11 _ hf
  · replace hf := (if_neg h2).symm.trans hf
    refine go_icN (pc := 238) d22_238 (XT.ii_eq_f h2) ?_
    refine go_iconst (pc := 241) d22_241 ci_0 ?_
    cases hf
    exact go_zret (pc := 242) rfl d22_242 (show (0 : Int32) = nar .boolean (0 : Int32) by decide)
set_option maxRecDepth 65536 in
set_option maxHeartbeats 4000000 in
theorem law_193_ok {k123 : Int32 → Int32 → Int32 → Int32 → Int32 → Int32 → S → Option (Int32 × S)} {k132 : Int32 → Int32 → Int32 → Int32 → Int32 → Int32 → Int32 → S → Option (Int32 × S)} (hk123 : T_law_123 k123) (hk132 : T_law_132 k132) : ∀ (n : Nat) (v1 : Int32) (v3 : Int32) (v4 : Int32) (v5 : Int32) (v6 : Int32) (v7 : Int32) (v8 : Int32) (v10 : Int32) (v11 : Int32) (t0 : S) (x0 : Slot) (x9 : Slot) (hx0 : k1 x0) (hx9 : k1 x9) (o : Int32 × S), law_193 k123 k132 n v1 v3 v4 v5 v6 v7 v8 v10 v11 t0 = some o → Go PP m22 193 [x0, .val (.int v1), .val (.ref 1), .val (.int v3), .val (.int v4), .val (.int v5), .val (.int v6), .val (.int v7), .val (.int v8), x9, .val (.int v10), .val (.int v11)] [] (none, [(9, t0)]) (some (.int o.1), (none, [(9, o.2)])) := by
  intro n
  induction n with
  | zero => intro v1 v3 v4 v5 v6 v7 v8 v10 v11 t0 x0 x9 hx0 hx9 o hf; exact nomatch hf
  | succ n ih =>
    intro v1 v3 v4 v5 v6 v7 v8 v10 v11 t0 x0 x9 hx0 hx9 o hf
    unfold law_193 at hf
    refine go_iload (pc := 193) d22_193 rfl (go_iconst (pc := 195) d22_195 ci_3 ?_)
    by_cases h1 : v11 < (3 : Int32)
    · replace hf := (if_pos h1).symm.trans hf
      refine go_icN (pc := 196) d22_196 (XT.ii_ge_f h1) ?_
      refine go_iload (pc := 199) d22_199 rfl (go_iloadN (pc := 201) d22_201 rfl (go_iload (pc := 202) d22_202 rfl (go_iload (pc := 204) d22_204 rfl ?_)))
      refine go_stat (pc := 206) (as := [.int v1, .int v7, .int v11]) (rest := [.int v10]) (w' := (none, [(9, t0)])) lk_1_7 pd_1 rfl rfl ⟨Nat.le_of_ble_eq_true rfl, Nat.le_of_ble_eq_true rfl⟩ ⟨rfl, rfl, rfl⟩ ⟨rfl, rfl, rfl, rfl, rfl⟩ d22_206 (c_h_bit_n1 v1 v7 v11 t0) ?_
      refine go_iload (pc := 209) d22_209 rfl (go_iload (pc := 211) d22_211 rfl (go_iload (pc := 213) d22_213 rfl ?_))
      refine go_stat (pc := 215) (as := [.int v5, .int v11, .int v8]) (rest := [.int (h_bit v1 v7 v11), .int v10]) (w' := (none, [(9, t0)])) lk_1_7 pd_1 rfl rfl ⟨Nat.le_of_ble_eq_true rfl, Nat.le_of_ble_eq_true rfl⟩ ⟨rfl, rfl, rfl⟩ ⟨rfl, rfl, rfl, rfl, rfl⟩ d22_215 (c_h_bit_n1 v5 v11 v8 t0) ?_
      refine go_imul (pc := 218) d22_218 (go_iadd (pc := 219) d22_219 (go_istore (pc := 220) (L' := [x0, .val (.int v1), .val (.ref 1), .val (.int v3), .val (.int v4), .val (.int v5), .val (.int v6), .val (.int v7), .val (.int v8), x9, .val (.int (v10 + ((h_bit v1 v7 v11) * (h_bit v5 v11 v8)))), .val (.int v11)]) d22_220 rfl (go_iinc (pc := 222) (L' := [x0, .val (.int v1), .val (.ref 1), .val (.int v3), .val (.int v4), .val (.int v5), .val (.int v6), .val (.int v7), .val (.int v8), x9, .val (.int (v10 + ((h_bit v1 v7 v11) * (h_bit v5 v11 v8)))), .val (.int (v11 + (1 : Int32)))]) d22_222 rfl ci_1 rfl (go_goto (pc := 225) (pc' := 193) d22_225 j_225_m32 ?_))))
      exact ih v1 v3 v4 v5 v6 v7 v8 (v10 + ((h_bit v1 v7 v11) * (h_bit v5 v11 v8))) (v11 + (1 : Int32)) t0 x0 x9 hx0 hx9 _ hf
    · replace hf := (if_neg h1).symm.trans hf
      refine go_icY (pc := 196) (pc' := 228) d22_196 (XT.ii_ge_t h1) j_196_32 ?_
      exact law_228_ok hk123 hk132 v1 v3 v4 v5 v6 v7 v8 v10 t0 x0 x9 (.val (.int v11)) hx0 hx9 (Or.inr ⟨_, rfl, rfl⟩) _ hf
set_option maxRecDepth 65536 in
set_option maxHeartbeats 4000000 in
theorem law_175_ok {k123 : Int32 → Int32 → Int32 → Int32 → Int32 → Int32 → S → Option (Int32 × S)} {k132 : Int32 → Int32 → Int32 → Int32 → Int32 → Int32 → Int32 → S → Option (Int32 × S)} (hk123 : T_law_123 k123) (hk132 : T_law_132 k132) : ∀ (v1 : Int32) (v3 : Int32) (v4 : Int32) (v5 : Int32) (v6 : Int32) (v7 : Int32) (v8 : Int32) (p0 : Int32) (p1 : Int32) (t0 : S) (x0 : Slot) (x9 : Slot) (x10 : Slot) (x11 : Slot) (hx0 : k1 x0) (hx9 : k1 x9) (hx10 : k1 x10) (hx11 : k1 x11) (o : Int32 × S), law_175 k123 k132 v1 v3 v4 v5 v6 v7 v8 p0 p1 t0 = some o → Go PP m22 175 [x0, .val (.int v1), .val (.ref 1), .val (.int v3), .val (.int v4), .val (.int v5), .val (.int v6), .val (.int v7), .val (.int v8), x9, x10, x11] [.int p0, .int p1] (none, [(9, t0)]) (some (.int o.1), (none, [(9, o.2)])) := by
  intro v1 v3 v4 v5 v6 v7 v8 p0 p1 t0 x0 x9 x10 x11 hx0 hx9 hx10 hx11 o hf
  unfold law_175 at hf
  by_cases h1 : p1 = p0
  · replace hf := (if_pos h1).symm.trans hf
    refine go_icY (pc := 175) (pc' := 180) d22_175 (XT.ii_eq_t h1) j_175_5 ?_
    refine go_iloadN (pc := 180) d22_180 rfl (go_iload (pc := 181) d22_181 rfl (go_iload (pc := 183) d22_183 rfl ?_))
    refine go_stat (pc := 185) (as := [.int v1, .int v7, .int v8]) (rest := []) (w' := (none, [(9, t0)])) lk_1_7 pd_1 rfl rfl ⟨Nat.le_of_ble_eq_true rfl, Nat.le_of_ble_eq_true rfl⟩ ⟨rfl, rfl, rfl⟩ ⟨rfl, rfl, rfl, rfl, rfl⟩ d22_185 (c_h_bit_n1 v1 v7 v8 t0) ?_
    refine go_istore (pc := 188) (L' := [x0, .val (.int v1), .val (.ref 1), .val (.int v3), .val (.int v4), .val (.int v5), .val (.int v6), .val (.int v7), .val (.int v8), x9, .val (.int (h_bit v1 v7 v8)), x11]) d22_188 (stx rfl hx10 rfl) (go_iconst (pc := 190) d22_190 ci_0 (go_istore (pc := 191) (L' := [x0, .val (.int v1), .val (.ref 1), .val (.int v3), .val (.int v4), .val (.int v5), .val (.int v6), .val (.int v7), .val (.int v8), x9, .val (.int (h_bit v1 v7 v8)), .val (.int (0 : Int32))]) d22_191 (stx rfl hx11 rfl) ?_))
    exact law_193_ok hk123 hk132 BIG v1 v3 v4 v5 v6 v7 v8 (h_bit v1 v7 v8) (0 : Int32) t0 x0 x9 hx0 hx9 _ hf
  · replace hf := (if_neg h1).symm.trans hf
    refine go_icN (pc := 175) d22_175 (XT.ii_eq_f h1) ?_
    refine go_iconst (pc := 178) d22_178 ci_0 ?_
    cases hf
    exact go_zret (pc := 179) rfl d22_179 (show (0 : Int32) = nar .boolean (0 : Int32) by decide)
set_option maxRecDepth 65536 in
set_option maxHeartbeats 4000000 in
theorem law_132_ok {k123 : Int32 → Int32 → Int32 → Int32 → Int32 → Int32 → S → Option (Int32 × S)} (hk123 : T_law_123 k123) : ∀ (n : Nat) (v1 : Int32) (v3 : Int32) (v4 : Int32) (v5 : Int32) (v6 : Int32) (v7 : Int32) (v8 : Int32) (t0 : S) (x0 : Slot) (x9 : Slot) (x10 : Slot) (x11 : Slot) (hx0 : k1 x0) (hx9 : k1 x9) (hx10 : k1 x10) (hx11 : k1 x11) (o : Int32 × S), law_132 k123 n v1 v3 v4 v5 v6 v7 v8 t0 = some o → Go PP m22 132 [x0, .val (.int v1), .val (.ref 1), .val (.int v3), .val (.int v4), .val (.int v5), .val (.int v6), .val (.int v7), .val (.int v8), x9, x10, x11] [] (none, [(9, t0)]) (some (.int o.1), (none, [(9, o.2)])) := by
  intro n
  induction n with
  | zero => intro v1 v3 v4 v5 v6 v7 v8 t0 x0 x9 x10 x11 hx0 hx9 hx10 hx11 o hf; exact nomatch hf
  | succ n ih =>
    intro v1 v3 v4 v5 v6 v7 v8 t0 x0 x9 x10 x11 hx0 hx9 hx10 hx11 o hf
    unfold law_132 at hf
    refine go_iload (pc := 132) d22_132 rfl (go_iconst (pc := 134) d22_134 ci_3 ?_)
    by_cases h1 : v8 < (3 : Int32)
    · replace hf := (if_pos h1).symm.trans hf
      refine go_icN (pc := 135) d22_135 (XT.ii_ge_f h1) ?_
      refine go_iload (pc := 138) d22_138 rfl (go_iload (pc := 140) d22_140 rfl (go_iload (pc := 142) d22_142 rfl ?_))
      refine go_stat (pc := 144) (as := [.int v5, .int v7, .int v8]) (rest := []) (w' := (none, [(9, t0)])) lk_1_7 pd_1 rfl rfl ⟨Nat.le_of_ble_eq_true rfl, Nat.le_of_ble_eq_true rfl⟩ ⟨rfl, rfl, rfl⟩ ⟨rfl, rfl, rfl, rfl, rfl⟩ d22_144 (c_h_bit_n1 v5 v7 v8 t0) ?_
      refine go_istore (pc := 147) (L' := [x0, .val (.int v1), .val (.ref 1), .val (.int v3), .val (.int v4), .val (.int v5), .val (.int v6), .val (.int v7), .val (.int v8), .val (.int (h_bit v5 v7 v8)), x10, x11]) d22_147 (stx rfl hx9 rfl) (go_iload (pc := 149) d22_149 rfl (go_iload (pc := 151) d22_151 rfl (go_iadd (pc := 153) d22_153 (go_istore (pc := 154) (L' := [x0, .val (.int v1), .val (.ref 1), .val (.int v3), .val (.int v4), .val (.int v5), .val (.int (v6 + (h_bit v5 v7 v8))), .val (.int v7), .val (.int v8), .val (.int (h_bit v5 v7 v8)), x10, x11]) d22_154 rfl (go_aloadN (pc := 156) d22_156 rfl (go_iload (pc := 157) d22_157 rfl (go_iload (pc := 159) d22_159 rfl ?_)))))))
      obtain ⟨r161, e2, hf⟩ := Option.bind_eq_some_iff.mp hf
      refine go_virt (pc := 161) (i := 0) (as := [.int v7, .int v8]) (rest := []) (w' := (none, [(9, t0)])) lk_1_25 pd_18 rfl oid_0 rfl rfl rfl rfl rfl rfl ⟨rfl, rfl, rfl, rfl, rfl⟩ d22_161 (c_k_reaches v7 v8 t0 _ e2) ?_
      refine go_iload (pc := 164) d22_164 rfl (go_iconst (pc := 166) d22_166 ci_1 ?_)
      by_cases h3 : (h_bit v5 v7 v8) = (1 : Int32)
      · refine go_icN (pc := 167) d22_167 (XT.ii_ne_f h3) ?_
        refine go_iconst (pc := 170) d22_170 ci_1 (go_goto (pc := 171) (pc' := 175) d22_171 j_171_4 ?_)
        exact law_175_ok hk123 ih v1 v3 v4 v5 (v6 + (h_bit v5 v7 v8)) v7 v8 (1 : Int32) r161 t0 x0 (.val (.int (h_bit v5 v7 v8))) x10 x11 hx0 (Or.inr ⟨_, rfl, rfl⟩) hx10 hx11 _ (by simpa only [if_pos h3] using hf)
      · refine go_icY (pc := 167) (pc' := 174) d22_167 (XT.ii_ne_t h3) j_167_7 ?_
        refine go_iconst (pc := 174) d22_174 ci_0 ?_
        exact law_175_ok hk123 ih v1 v3 v4 v5 (v6 + (h_bit v5 v7 v8)) v7 v8 (0 : Int32) r161 t0 x0 (.val (.int (h_bit v5 v7 v8))) x10 x11 hx0 (Or.inr ⟨_, rfl, rfl⟩) hx10 hx11 _ (by simpa only [if_neg h3] using hf)
    · replace hf := (if_neg h1).symm.trans hf
      refine go_icY (pc := 135) (pc' := 249) d22_135 (XT.ii_ge_t h1) j_135_114 ?_
      refine go_iinc (pc := 249) (L' := [x0, .val (.int v1), .val (.ref 1), .val (.int v3), .val (.int v4), .val (.int v5), .val (.int v6), .val (.int (v7 + (1 : Int32))), .val (.int v8), x9, x10, x11]) d22_249 rfl ci_1 rfl (go_goto (pc := 252) (pc' := 123) d22_252 j_252_m129 ?_)
      exact hk123 v1 v3 v4 v5 v6 (v7 + (1 : Int32)) t0 x0 (.val (.int v8)) x9 x10 x11 hx0 (Or.inr ⟨_, rfl, rfl⟩) hx9 hx10 hx11 _ hf
set_option maxRecDepth 65536 in
set_option maxHeartbeats 4000000 in
theorem law_123_ok  : ∀ (n : Nat) (v1 : Int32) (v3 : Int32) (v4 : Int32) (v5 : Int32) (v6 : Int32) (v7 : Int32) (t0 : S) (x0 : Slot) (x8 : Slot) (x9 : Slot) (x10 : Slot) (x11 : Slot) (hx0 : k1 x0) (hx8 : k1 x8) (hx9 : k1 x9) (hx10 : k1 x10) (hx11 : k1 x11) (o : Int32 × S), law_123 n v1 v3 v4 v5 v6 v7 t0 = some o → Go PP m22 123 [x0, .val (.int v1), .val (.ref 1), .val (.int v3), .val (.int v4), .val (.int v5), .val (.int v6), .val (.int v7), x8, x9, x10, x11] [] (none, [(9, t0)]) (some (.int o.1), (none, [(9, o.2)])) := by
  intro n
  induction n with
  | zero => intro v1 v3 v4 v5 v6 v7 t0 x0 x8 x9 x10 x11 hx0 hx8 hx9 hx10 hx11 o hf; exact nomatch hf
  | succ n ih =>
    intro v1 v3 v4 v5 v6 v7 t0 x0 x8 x9 x10 x11 hx0 hx8 hx9 hx10 hx11 o hf
    unfold law_123 at hf
    refine go_iload (pc := 123) d22_123 rfl (go_iconst (pc := 125) d22_125 ci_3 ?_)
    by_cases h1 : v7 < (3 : Int32)
    · replace hf := (if_pos h1).symm.trans hf
      refine go_icN (pc := 126) d22_126 (XT.ii_ge_f h1) ?_
      refine go_iconst (pc := 129) d22_129 ci_0 (go_istore (pc := 130) (L' := [x0, .val (.int v1), .val (.ref 1), .val (.int v3), .val (.int v4), .val (.int v5), .val (.int v6), .val (.int v7), .val (.int (0 : Int32)), x9, x10, x11]) d22_130 (stx rfl hx8 rfl) ?_)
      exact law_132_ok ih BIG v1 v3 v4 v5 v6 v7 (0 : Int32) t0 x0 x9 x10 x11 hx0 hx9 hx10 hx11 _ hf
    · replace hf := (if_neg h1).symm.trans hf
      refine go_icY (pc := 126) (pc' := 255) d22_126 (XT.ii_ge_t h1) j_126_129 ?_
      exact law_255_ok v3 v4 v6 t0 x0 (.val (.int v1)) (.val (.int v5)) (.val (.int v7)) x8 x9 x10 x11 hx0 (Or.inr ⟨_, rfl, rfl⟩) (Or.inr ⟨_, rfl, rfl⟩) (Or.inr ⟨_, rfl, rfl⟩) hx8 hx9 hx10 hx11 _ hf
set_option maxRecDepth 65536 in
set_option maxHeartbeats 4000000 in
theorem law_117_ok  : ∀ (v1 : Int32) (v3 : Int32) (v4 : Int32) (v5 : Int32) (t0 : S) (x0 : Slot) (x6 : Slot) (x7 : Slot) (hx0 : k1 x0) (hx6 : k1 x6) (hx7 : k1 x7) (o : Int32 × S), law_117 v1 v3 v4 v5 t0 = some o → Go PP m22 117 [x0, .val (.int v1), .val (.ref 1), .val (.int v3), .val (.int v4), .val (.int v5), x6, x7, .unset, .unset, .unset, .unset] [] (none, [(9, t0)]) (some (.int o.1), (none, [(9, o.2)])) := by
  intro v1 v3 v4 v5 t0 x0 x6 x7 hx0 hx6 hx7 o hf
  unfold law_117 at hf
  refine go_iconst (pc := 117) d22_117 ci_0 (go_istore (pc := 118) (L' := [x0, .val (.int v1), .val (.ref 1), .val (.int v3), .val (.int v4), .val (.int v5), .val (.int (0 : Int32)), x7, .unset, .unset, .unset, .unset]) d22_118 (stx rfl hx6 rfl) (go_iconst (pc := 120) d22_120 ci_0 (go_istore (pc := 121) (L' := [x0, .val (.int v1), .val (.ref 1), .val (.int v3), .val (.int v4), .val (.int v5), .val (.int (0 : Int32)), .val (.int (0 : Int32)), .unset, .unset, .unset, .unset]) d22_121 (stx rfl hx7 rfl) ?_)))
  exact law_123_ok BIG v1 v3 v4 v5 (0 : Int32) (0 : Int32) t0 x0 .unset .unset .unset .unset hx0 (Or.inl rfl) (Or.inl rfl) (Or.inl rfl) (Or.inl rfl) _ hf
set_option maxRecDepth 65536 in
set_option maxHeartbeats 4000000 in
theorem law_95_ok  : ∀ (n : Nat) (v1 : Int32) (v3 : Int32) (v4 : Int32) (v5 : Int32) (v6 : Int32) (t0 : S) (x0 : Slot) (x7 : Slot) (hx0 : k1 x0) (hx7 : k1 x7) (o : Int32 × S), law_95 n v1 v3 v4 v5 v6 t0 = some o → Go PP m22 95 [x0, .val (.int v1), .val (.ref 1), .val (.int v3), .val (.int v4), .val (.int v5), .val (.int v6), x7, .unset, .unset, .unset, .unset] [] (none, [(9, t0)]) (some (.int o.1), (none, [(9, o.2)])) := by
  intro n
  induction n with
  | zero => intro v1 v3 v4 v5 v6 t0 x0 x7 hx0 hx7 o hf; exact nomatch hf
  | succ n ih =>
    intro v1 v3 v4 v5 v6 t0 x0 x7 hx0 hx7 o hf
    unfold law_95 at hf
    refine go_iload (pc := 95) d22_95 rfl (go_iconst (pc := 97) d22_97 ci_3 ?_)
    by_cases h1 : v6 < (3 : Int32)
    · replace hf := (if_pos h1).symm.trans hf
      refine go_icN (pc := 98) d22_98 (XT.ii_ge_f h1) ?_
      refine go_iloadN (pc := 101) d22_101 rfl (go_iloadN (pc := 102) d22_102 rfl (go_iload (pc := 103) d22_103 rfl ?_))
      obtain ⟨r105, e2, hf⟩ := Option.bind_eq_some_iff.mp hf
      refine go_stat (pc := 105) (as := [.int v1, .int v5]) (rest := [.int v1]) (w' := (none, [(9, t0)])) lk_1_22 pd_16 rfl rfl ⟨Nat.le_of_ble_eq_true rfl, Nat.le_of_ble_eq_true rfl⟩ ⟨rfl, rfl, rfl⟩ ⟨rfl, rfl, rfl, rfl, rfl⟩ d22_105 (c_h_step_n1 v1 v5 t0 _ e2) ?_
      refine go_ior (pc := 108) d22_108 (go_istore (pc := 109) (L' := [x0, .val (.int v1), .val (.ref 1), .val (.int v3), .val (.int v4), .val (.int (v1 ||| r105)), .val (.int v6), x7, .unset, .unset, .unset, .unset]) d22_109 rfl (go_iinc (pc := 111) (L' := [x0, .val (.int v1), .val (.ref 1), .val (.int v3), .val (.int v4), .val (.int (v1 ||| r105)), .val (.int (v6 + (1 : Int32))), x7, .unset, .unset, .unset, .unset]) d22_111 rfl ci_1 rfl (go_goto (pc := 114) (pc' := 95) d22_114 j_114_m19 ?_)))
      exact ih v1 v3 v4 (v1 ||| r105) (v6 + (1 : Int32)) t0 x0 x7 hx0 hx7 _ hf
    · replace hf := (if_neg h1).symm.trans hf
      refine go_icY (pc := 98) (pc' := 117) d22_98 (XT.ii_ge_t h1) j_98_19 ?_
      exact law_117_ok v1 v3 v4 v5 t0 x0 (.val (.int v6)) x7 hx0 (Or.inr ⟨_, rfl, rfl⟩) hx7 _ hf
set_option maxRecDepth 65536 in
set_option maxHeartbeats 4000000 in
theorem law_89_ok  : ∀ (v1 : Int32) (v3 : Int32) (v4 : Int32) (t0 : S) (x0 : Slot) (x5 : Slot) (x6 : Slot) (x7 : Slot) (hx0 : k1 x0) (hx5 : k1 x5) (hx6 : k1 x6) (hx7 : k1 x7) (o : Int32 × S), law_89 v1 v3 v4 t0 = some o → Go PP m22 89 [x0, .val (.int v1), .val (.ref 1), .val (.int v3), .val (.int v4), x5, x6, x7, .unset, .unset, .unset, .unset] [] (none, [(9, t0)]) (some (.int o.1), (none, [(9, o.2)])) := by
  intro v1 v3 v4 t0 x0 x5 x6 x7 hx0 hx5 hx6 hx7 o hf
  unfold law_89 at hf
  refine go_iloadN (pc := 89) d22_89 rfl (go_istore (pc := 90) (L' := [x0, .val (.int v1), .val (.ref 1), .val (.int v3), .val (.int v4), .val (.int v1), x6, x7, .unset, .unset, .unset, .unset]) d22_90 (stx rfl hx5 rfl) (go_iconst (pc := 92) d22_92 ci_0 (go_istore (pc := 93) (L' := [x0, .val (.int v1), .val (.ref 1), .val (.int v3), .val (.int v4), .val (.int v1), .val (.int (0 : Int32)), x7, .unset, .unset, .unset, .unset]) d22_93 (stx rfl hx6 rfl) ?_)))
  exact law_95_ok BIG v1 v3 v4 v1 (0 : Int32) t0 x0 x7 hx0 hx7 _ hf
def T_law_25 (k25 : Int32 → Int32 → Int32 → Int32 → S → Option (Int32 × S)) : Prop := ∀ (v1 : Int32) (v3 : Int32) (v4 : Int32) (v5 : Int32) (t0 : S) (x0 : Slot) (x6 : Slot) (x7 : Slot) (hx0 : k1 x0) (hx6 : k1 x6) (hx7 : k1 x7) (o : Int32 × S), k25 v1 v3 v4 v5 t0 = some o → Go PP m22 25 [x0, .val (.int v1), .val (.ref 1), .val (.int v3), .val (.int v4), .val (.int v5), x6, x7, .unset, .unset, .unset, .unset] [] (none, [(9, t0)]) (some (.int o.1), (none, [(9, o.2)]))
set_option maxRecDepth 65536 in
set_option maxHeartbeats 4000000 in
theorem law_34_ok {k25 : Int32 → Int32 → Int32 → Int32 → S → Option (Int32 × S)} (hk25 : T_law_25 k25) : ∀ (n : Nat) (v1 : Int32) (v3 : Int32) (v4 : Int32) (v5 : Int32) (v6 : Int32) (t0 : S) (x0 : Slot) (x7 : Slot) (hx0 : k1 x0) (hx7 : k1 x7) (o : Int32 × S), law_34 k25 n v1 v3 v4 v5 v6 t0 = some o → Go PP m22 34 [x0, .val (.int v1), .val (.ref 1), .val (.int v3), .val (.int v4), .val (.int v5), .val (.int v6), x7, .unset, .unset, .unset, .unset] [] (none, [(9, t0)]) (some (.int o.1), (none, [(9, o.2)])) := by
  intro n
  induction n with
  | zero => intro v1 v3 v4 v5 v6 t0 x0 x7 hx0 hx7 o hf; exact nomatch hf
  | succ n ih =>
    intro v1 v3 v4 v5 v6 t0 x0 x7 hx0 hx7 o hf
    unfold law_34 at hf
    refine go_iload (pc := 34) d22_34 rfl (go_iconst (pc := 36) d22_36 ci_3 ?_)
    by_cases h1 : v6 < (3 : Int32)
    · replace hf := (if_pos h1).symm.trans hf
      refine go_icN (pc := 37) d22_37 (XT.ii_ge_f h1) ?_
      refine go_iloadN (pc := 40) d22_40 rfl (go_iload (pc := 41) d22_41 rfl (go_iload (pc := 43) d22_43 rfl ?_))
      refine go_stat (pc := 45) (as := [.int v1, .int v5, .int v6]) (rest := []) (w' := (none, [(9, t0)])) lk_1_7 pd_1 rfl rfl ⟨Nat.le_of_ble_eq_true rfl, Nat.le_of_ble_eq_true rfl⟩ ⟨rfl, rfl, rfl⟩ ⟨rfl, rfl, rfl, rfl, rfl⟩ d22_45 (c_h_bit_n1 v1 v5 v6 t0) ?_
      refine go_iconst (pc := 48) d22_48 ci_1 ?_
      by_cases h2 : (h_bit v1 v5 v6) = (1 : Int32)
      · replace hf := (if_pos h2).symm.trans hf
        refine go_icN (pc := 49) d22_49 (XT.ii_ne_f h2) ?_
        refine go_aloadN (pc := 52) d22_52 rfl (go_iload (pc := 53) d22_53 rfl (go_iload (pc := 55) d22_55 rfl ?_))
        obtain ⟨r57, e3, hf⟩ := Option.bind_eq_some_iff.mp hf
        refine go_virt (pc := 57) (i := 0) (as := [.int v5, .int v6]) (rest := []) (w' := (none, [(9, r57.2)])) lk_1_18 pd_15 rfl oid_0 rfl rfl rfl rfl rfl rfl ⟨rfl, rfl, rfl, rfl, rfl⟩ d22_57 (c_k_insertEdge v5 v6 t0 _ e3) ?_
        refine go_istore (pc := 60) (L' := [x0, .val (.int v1), .val (.ref 1), .val (.int v3), .val (.int v4), .val (.int v5), .val (.int v6), .val (.int r57.1), .unset, .unset, .unset, .unset]) d22_60 (stx rfl hx7 rfl) (go_iload (pc := 62) d22_62 rfl ?_)
        by_cases h4 : r57.1 < 0
        · replace hf := (if_pos h4).symm.trans hf
          refine go_ifN (pc := 64) d22_64 (XT.i0_ge_f h4) ?_
          refine go_iconst (pc := 67) d22_67 ci_0 ?_
          cases hf
          exact go_zret (pc := 68) rfl d22_68 (show (0 : Int32) = nar .boolean (0 : Int32) by decide)
        · replace hf := (if_neg h4).symm.trans hf
          refine go_ifY (pc := 64) (pc' := 69) d22_64 (XT.i0_ge_t h4) j_64_5 ?_
          refine go_iloadN (pc := 69) d22_69 rfl (go_iload (pc := 70) d22_70 rfl (go_iadd (pc := 72) d22_72 (go_istoreN (pc := 73) (L' := [x0, .val (.int v1), .val (.ref 1), .val (.int (v3 + r57.1)), .val (.int v4), .val (.int v5), .val (.int v6), .val (.int r57.1), .unset, .unset, .unset, .unset]) d22_73 rfl (go_iinc (pc := 74) (L' := [x0, .val (.int v1), .val (.ref 1), .val (.int (v3 + r57.1)), .val (.int (v4 + (1 : Int32))), .val (.int v5), .val (.int v6), .val (.int r57.1), .unset, .unset, .unset, .unset]) d22_74 rfl ci_1 rfl (go_iinc (pc := 77) (L' := [x0, .val (.int v1), .val (.ref 1), .val (.int (v3 + r57.1)), .val (.int (v4 + (1 : Int32))), .val (.int v5), .val (.int (v6 + (1 : Int32))), .val (.int r57.1), .unset, .unset, .unset, .unset]) d22_77 rfl ci_1 rfl (go_goto (pc := 80) (pc' := 34) d22_80 j_80_m46 ?_))))))
          exact ih v1 (v3 + r57.1) (v4 + (1 : Int32)) v5 (v6 + (1 : Int32)) r57.2 x0 (.val (.int r57.1)) hx0 (Or.inr ⟨_, rfl, rfl⟩) _ hf
      · replace hf := (if_neg h2).symm.trans hf
        refine go_icY (pc := 49) (pc' := 77) d22_49 (XT.ii_ne_t h2) j_49_28 ?_
        refine go_iinc (pc := 77) (L' := [x0, .val (.int v1), .val (.ref 1), .val (.int v3), .val (.int v4), .val (.int v5), .val (.int (v6 + (1 : Int32))), x7, .unset, .unset, .unset, .unset]) d22_77 rfl ci_1 rfl (go_goto (pc := 80) (pc' := 34) d22_80 j_80_m46 ?_)
        exact ih v1 v3 v4 v5 (v6 + (1 : Int32)) t0 x0 x7 hx0 hx7 _ hf
    · replace hf := (if_neg h1).symm.trans hf
      refine go_icY (pc := 37) (pc' := 83) d22_37 (XT.ii_ge_t h1) j_37_46 ?_
      refine go_iinc (pc := 83) (L' := [x0, .val (.int v1), .val (.ref 1), .val (.int v3), .val (.int v4), .val (.int (v5 + (1 : Int32))), .val (.int v6), x7, .unset, .unset, .unset, .unset]) d22_83 rfl ci_1 rfl (go_goto (pc := 86) (pc' := 25) d22_86 j_86_m61 ?_)
      exact hk25 v1 v3 v4 (v5 + (1 : Int32)) t0 x0 (.val (.int v6)) x7 hx0 (Or.inr ⟨_, rfl, rfl⟩) hx7 _ hf
set_option maxRecDepth 65536 in
set_option maxHeartbeats 4000000 in
theorem law_25_ok  : ∀ (n : Nat) (v1 : Int32) (v3 : Int32) (v4 : Int32) (v5 : Int32) (t0 : S) (x0 : Slot) (x6 : Slot) (x7 : Slot) (hx0 : k1 x0) (hx6 : k1 x6) (hx7 : k1 x7) (o : Int32 × S), law_25 n v1 v3 v4 v5 t0 = some o → Go PP m22 25 [x0, .val (.int v1), .val (.ref 1), .val (.int v3), .val (.int v4), .val (.int v5), x6, x7, .unset, .unset, .unset, .unset] [] (none, [(9, t0)]) (some (.int o.1), (none, [(9, o.2)])) := by
  intro n
  induction n with
  | zero => intro v1 v3 v4 v5 t0 x0 x6 x7 hx0 hx6 hx7 o hf; exact nomatch hf
  | succ n ih =>
    intro v1 v3 v4 v5 t0 x0 x6 x7 hx0 hx6 hx7 o hf
    unfold law_25 at hf
    refine go_iload (pc := 25) d22_25 rfl (go_iconst (pc := 27) d22_27 ci_3 ?_)
    by_cases h1 : v5 < (3 : Int32)
    · replace hf := (if_pos h1).symm.trans hf
      refine go_icN (pc := 28) d22_28 (XT.ii_ge_f h1) ?_
      refine go_iconst (pc := 31) d22_31 ci_0 (go_istore (pc := 32) (L' := [x0, .val (.int v1), .val (.ref 1), .val (.int v3), .val (.int v4), .val (.int v5), .val (.int (0 : Int32)), x7, .unset, .unset, .unset, .unset]) d22_32 (stx rfl hx6 rfl) ?_)
      exact law_34_ok ih BIG v1 v3 v4 v5 (0 : Int32) t0 x0 x7 hx0 hx7 _ hf
    · replace hf := (if_neg h1).symm.trans hf
      refine go_icY (pc := 28) (pc' := 89) d22_28 (XT.ii_ge_t h1) j_28_61 ?_
      exact law_89_ok v1 v3 v4 t0 x0 (.val (.int v5)) x6 x7 hx0 (Or.inr ⟨_, rfl, rfl⟩) hx6 hx7 _ hf
set_option maxRecDepth 65536 in
set_option maxHeartbeats 4000000 in
theorem law_ok  : ∀ (v0 : Int32)   (o : Int32 × S), law v0 = some o → Go PP m22 0 [.val (.int v0), .unset, .unset, .unset, .unset, .unset, .unset, .unset, .unset, .unset, .unset, .unset] [] (none, []) (some (.int o.1), (none, [(9, o.2)])) := by
  intro v0 o hf
  unfold law at hf
  refine go_iloadN (pc := 0) d22_0 rfl (go_sipush (pc := 1) d22_1 cs_511 (go_iand (pc := 4) d22_4 (go_istoreN (pc := 5) (L' := [.val (.int v0), .val (.int (v0 &&& (511 : Int32))), .unset, .unset, .unset, .unset, .unset, .unset, .unset, .unset, .unset, .unset]) d22_5 rfl ?_)))
  refine go_new (pc := 6) (n := 0) (w' := (none, [(0, s0)])) (List.mem_of_getElem? (i := 0) rfl) rfl rfl rfl rfl rfl rfl rfl d22_6 oid_0 ?_
  refine go_dupR (pc := 9) d22_9 (go_iconst (pc := 10) d22_10 ci_3 (go_bipush (pc := 11) d22_11 cb_9 ?_))
  obtain ⟨r13, e2, hf⟩ := Option.bind_eq_some_iff.mp hf
  refine go_init (pc := 13) (i := 0) (as := [.int (3 : Int32), .int (9 : Int32)]) (rest := [.ref 1]) (w' := (none, [(9, r13)])) lk_1_15 pd_0 rfl oid_0 rfl rfl rfl rfl rfl rfl rfl rfl rfl ⟨rfl, rfl, rfl⟩ ⟨rfl, rfl⟩ d22_13 (c_k_init (3 : Int32) (9 : Int32) _ e2) ?_
  refine go_astoreN (pc := 16) (L' := [.val (.int v0), .val (.int (v0 &&& (511 : Int32))), .val (.ref 1), .unset, .unset, .unset, .unset, .unset, .unset, .unset, .unset, .unset]) d22_16 rfl (go_iconst (pc := 17) d22_17 ci_0 (go_istoreN (pc := 18) (L' := [.val (.int v0), .val (.int (v0 &&& (511 : Int32))), .val (.ref 1), .val (.int (0 : Int32)), .unset, .unset, .unset, .unset, .unset, .unset, .unset, .unset]) d22_18 rfl (go_iconst (pc := 19) d22_19 ci_0 (go_istore (pc := 20) (L' := [.val (.int v0), .val (.int (v0 &&& (511 : Int32))), .val (.ref 1), .val (.int (0 : Int32)), .val (.int (0 : Int32)), .unset, .unset, .unset, .unset, .unset, .unset, .unset]) d22_20 rfl (go_iconst (pc := 22) d22_22 ci_0 (go_istore (pc := 23) (L' := [.val (.int v0), .val (.int (v0 &&& (511 : Int32))), .val (.ref 1), .val (.int (0 : Int32)), .val (.int (0 : Int32)), .val (.int (0 : Int32)), .unset, .unset, .unset, .unset, .unset, .unset]) d22_23 rfl ?_))))))
  exact law_25_ok BIG (v0 &&& (511 : Int32)) (0 : Int32) (0 : Int32) (0 : Int32) r13 (.val (.int v0)) .unset .unset (Or.inr ⟨_, rfl, rfl⟩) (Or.inl rfl) (Or.inl rfl) _ hf
/-! ### DredViewKeeper: what its methods do, in plain terms -/
def G (l : List Int32) (x : Nat) : Int32 := l.getD x 0
def tb (l : List Int32) (x y : Nat) : Bool := bt (G l x) y
theorem ix_G {l : List Int32} {x : Nat} (h : x < l.length) (h2 : l.length ≤ 64) : ix l (Int32.ofNat x) = some (G l x) := by
  rw [ix_ofNat _ (by omega)]; simp [G, h]
theorem G_set {l : List Int32} {x : Nat} (h : x < l.length) (v : Int32) (y : Nat) : G (l.set x v) y = if y = x then v else G l y := by
  unfold G
  simp only [List.getD_eq_getElem?_getD]
  by_cases q : y = x
  · subst q; simp [h]
  · rw [List.getElem?_set_ne (Ne.symm q), if_neg q]
theorem G_rep (n x : Nat) : G (rep n 0) x = 0 := by
  unfold G
  rw [List.getD_eq_getElem?_getD, rep_get]
  by_cases q : x < n <;> simp [q]
theorem G_ext {l m : List Int32} (hl : l.length = m.length) (h : ∀ x, x < l.length → G l x = G m x) : l = m := by
  apply List.ext_getElem hl
  intro i h1 h2
  have := h i h1
  simpa [G, h1, h2] using this
def Wf (N : Nat) (s : S) : Prop := gI s 2 = Int32.ofNat N ∧ N ≤ 32 ∧ (gA s 0).length = 32 ∧ (gA s 1).length = 32 ∧ (gA s 2).length = 32 ∧ (gA s 3).length = 32 ∧ (gA s 4).length = 32 ∧ (gA s 5).length = 32
theorem Wf.sA {N : Nat} {s : S} {f : Nat} {l : List Int32} (h : Wf N s) (hl : f ≤ 5 → l.length = 32) : Wf N (Jvm.AM.sA s f l) := by
  obtain ⟨a, b, c0, c1, c2, c3, c4, c5⟩ := h
  refine ⟨by rw [gI_sA]; exact a, b, ?_, ?_, ?_, ?_, ?_, ?_⟩ <;> (rw [gA_sA]; split <;> first | assumption | (rename_i e; exact hl (by omega)))
theorem Wf.sI {N : Nat} {s : S} {f : Nat} {v : Int32} (h : Wf N s) (hf : f ≠ 2) : Wf N (Jvm.AM.sI s f v) := by
  obtain ⟨a, b, c⟩ := h
  refine ⟨by rw [gI_sI, if_neg (Ne.symm hf)]; exact a, b, ?_⟩
  simpa only [gA_sI] using c
theorem lt_n {N k : Nat} {s : S} (h : Wf N s) (hk : k < 64) : Int32.ofNat k < gI s 2 ↔ k < N := by
  rw [h.1]; exact ofNat_lt (by omega) (by have := h.2.1; omega)
theorem valid {N : Nat} {s : S} (h : Wf N s) (v : Int32) : k_isValid v s = if v < 0 then 0 else if v < Int32.ofNat N then 1 else 0 := by
  unfold k_isValid; rw [h.1]
theorem snap_ok {N : Nat} {s : S} (h : Wf N s) : ∃ s', k_takeSnapshot s = some s' ∧ Fx [] [] [2] [] s s' ∧ gA s' 2 = gA s 1 ∧ Wf N s' := by
  obtain ⟨s', e, W, F, g⟩ := run_for k_takeSnapshot_2 some 32 (fun k u => Wf N u ∧ Fx [] [] [2] [] s u ∧ ∀ x, x < k → G (gA u 2) x = G (gA s 1) x) (by
    intro n k u hk ⟨W, F, g⟩
    obtain ⟨a, b, c0, c1, c2, c3, c4, c5⟩ := id W
    refine ⟨Jvm.AM.sA u 2 ((gA u 2).set k (G (gA u 1) k)), ?_, W.sA (by simp [c2]), F.sA (by simp), ?_⟩
    · rw [k_takeSnapshot_2, if_pos ((lt_lit (by omega)).mpr hk), ix_G (by omega) (by omega), Option.bind_some, st_ofNat _ _ (by omega) (by omega), Option.bind_some, ofNat_succ]
    · intro x hx
      rw [gA_sA, if_pos rfl, G_set (by omega)]
      by_cases q : x = k
      · subst q; rw [if_pos rfl, F.2.2.1 1 (by simp)]
      · rw [if_neg q]; exact g x (by omega)) (fun n s _ => by rw [k_takeSnapshot_2, if_neg (by decide)]) BIG s (by decide) ⟨h, Fx.refl .., fun x hx => absurd hx (Nat.not_lt_zero _)⟩
  refine ⟨s', e, F, G_ext ?_ fun x hx => ?_, W⟩
  · rw [W.2.2.2.2.1, h.2.2.2.1]
  · rw [W.2.2.2.2.1] at hx; exact g x hx
theorem clearDelta_ok {N : Nat} {s : S} (h : Wf N s) : ∃ s', k_clearDelta s = some s' ∧ Fx [] [] [3, 4] [] s s' ∧ gA s' 3 = rep 32 0 ∧ gA s' 4 = rep 32 0 ∧ Wf N s' := by
  obtain ⟨s', e, W, F, g, g'⟩ := run_for k_clearDelta_2 some 32 (fun k u => Wf N u ∧ Fx [] [] [3, 4] [] s u ∧ Upto (gA u 3) k 0 ∧ Upto (gA u 4) k 0) (by
    intro n k u hk ⟨W, F, g, g'⟩
    obtain ⟨a, b, c0, c1, c2, c3, c4, c5⟩ := id W
    refine ⟨Jvm.AM.sA (Jvm.AM.sA u 3 ((gA u 3).set k 0)) 4 ((gA u 4).set k 0), ?_, (W.sA (by simp [c3])).sA (by simp [c4]), (F.sA (by simp)).sA (by simp), ?_, ?_⟩
    · rw [k_clearDelta_2, if_pos ((lt_lit (by omega)).mpr hk), st_ofNat _ _ (by omega) (by omega), Option.bind_some, st_ofNat _ _ (by omega) (by omega), Option.bind_some, ofNat_succ]
    · simp [gA_sA]; exact g.set (by omega)
    · simp [gA_sA]; exact g'.set (by omega)) (fun n s _ => by rw [k_clearDelta_2, if_neg (by decide)]) BIG s (by decide) ⟨h, Fx.refl .., Upto.zero _ _, Upto.zero _ _⟩
  exact ⟨s', e, F, g.all W.2.2.2.2.2.1, g'.all W.2.2.2.2.2.2.1, W⟩
theorem shift_ok {N : Nat} {s : S} (h : Wf N s) : ∃ s', k_shiftDelta s = some s' ∧ Fx [] [] [3, 4] [] s s' ∧ gA s' 3 = gA s 4 ∧ Wf N s' ∧ gA s' 4 = rep 32 0 := by
  obtain ⟨s', e, W, F, g, g', g2⟩ := run_for k_shiftDelta_2 some 32 (fun k u => Wf N u ∧ Fx [] [] [3, 4] [] s u ∧ (∀ x, x < k → G (gA u 3) x = G (gA s 4) x) ∧ (∀ x, k ≤ x → G (gA u 4) x = G (gA s 4) x) ∧ Upto (gA u 4) k 0) (by
    intro n k u hk ⟨W, F, g, g', g2⟩
    obtain ⟨a, b, c0, c1, c2, c3, c4, c5⟩ := id W
    refine ⟨Jvm.AM.sA (Jvm.AM.sA u 3 ((gA u 3).set k (G (gA u 4) k))) 4 ((gA u 4).set k 0), ?_, (W.sA (by simp [c3])).sA (by simp [c4]), (F.sA (by simp)).sA (by simp), ?_, ?_, ?_⟩
    · rw [k_shiftDelta_2, if_pos ((lt_lit (by omega)).mpr hk), ix_G (by omega) (by omega), Option.bind_some, st_ofNat _ _ (by omega) (by omega), Option.bind_some, st_ofNat _ _ (by omega) (by omega), Option.bind_some, ofNat_succ]
    · intro x hx
      simp [gA_sA]
      rw [G_set (by omega)]
      by_cases q : x = k
      · subst q; rw [if_pos rfl]; exact g' x (Nat.le_refl _)
      · rw [if_neg q]; exact g x (by omega)
    · intro x hx
      simp [gA_sA]
      rw [G_set (by omega), if_neg (by omega)]; exact g' x (by omega)
    · simp [gA_sA]; exact g2.set (by omega)) (fun n s _ => by rw [k_shiftDelta_2, if_neg (by decide)]) BIG s (by decide) ⟨h, Fx.refl .., fun x hx => absurd hx (Nat.not_lt_zero _), fun _ _ => rfl, Upto.zero _ _⟩
  refine ⟨s', e, F, G_ext ?_ fun x hx => ?_, W, g2.all W.2.2.2.2.2.2.1⟩
  · rw [W.2.2.2.2.2.1, h.2.2.2.2.2.2.1]
  · rw [W.2.2.2.2.2.1] at hx; exact g x hx
/-- 'for k in 0 .. N', with one more variable -/
theorem run_for2 {B C : Type} (L : Nat → C → Int32 → S → B) (F : C → S → B) (N : Nat) (I : Nat → C → S → Prop) (h : ∀ n k c s, k < N → I k c s → ∃ c' s', L (n + 1) c (Int32.ofNat k) s = L n c' (Int32.ofNat (k + 1)) s' ∧ I (k + 1) c' s') (h0 : ∀ n c s, I N c s → L (n + 1) c (Int32.ofNat N) s = F c s) (n : Nat) (c : C) (s : S) (hn : N < n) (i : I 0 c s) :
    ∃ c' s', L n c (Int32.ofNat 0) s = F c' s' ∧ I N c' s' := by
  obtain ⟨a, e, k, hk, ea, ia⟩ := run_loop (fun n (a : C × Int32 × S) => L n a.1 a.2.1 a.2.2) (fun a => F a.1 a.2.2) (fun m a => ∃ k, k + m = N ∧ a.2.1 = Int32.ofNat k ∧ I k a.1 a.2.2)
    (fun n m a ⟨k, h1, h2, h3⟩ => by
      obtain ⟨c', s', e, i'⟩ := h n k a.1 a.2.2 (by omega) h3
      exact ⟨(c', Int32.ofNat (k + 1), s'), by show L (n + 1) a.1 a.2.1 a.2.2 = _; rw [h2]; exact e, k + 1, by omega, rfl, i'⟩)
    (fun n a ⟨k, h1, h2, h3⟩ => by
      have : k = N := by omega
      subst this
      show L (n + 1) a.1 a.2.1 a.2.2 = _; rw [h2]; exact h0 n a.1 a.2.2 h3) N n (c, Int32.ofNat 0, s) hn ⟨0, by omega, rfl, i⟩
  have : k = N := by omega
  subst this
  exact ⟨a.1, a.2.2, e, ia⟩
theorem merge_ok {N : Nat} {s : S} (h : Wf N s) : ∃ r s', k_mergeDeltaIntoReach s = some (r, s') ∧ Fx [] [] [1] [] s s' ∧ Wf N s' ∧ (∀ x, G (gA s' 1) x = if x < N then G (gA s 1) x ||| G (gA s 3) x else G (gA s 1) x) ∧ (r = 0 ↔ ∀ x, x < N → G (gA s 3) x = 0) := by
  obtain ⟨c, s', e, W, F, g, b, r⟩ := run_for2 k_mergeDeltaIntoReach_4 (fun c u => some (nar .boolean c, u)) N (fun k c u => Wf N u ∧ Fx [] [] [1] [] s u ∧ (∀ x, G (gA u 1) x = if x < k then G (gA s 1) x ||| G (gA s 3) x else G (gA s 1) x) ∧ (c = 0 ∨ c = 1) ∧ (c = 0 ↔ ∀ x, x < k → G (gA s 3) x = 0)) (by
    intro n k c u hk ⟨W, F, g, b, r⟩
    obtain ⟨a, bb, c0, c1, c2, c3, c4, c5⟩ := id W
    have e3 : gA u 3 = gA s 3 := F.2.2.1 3 (by simp)
    by_cases q : G (gA s 3) k = 0
    · refine ⟨c, u, ?_, W, F, ?_, b, ?_⟩
      · rw [k_mergeDeltaIntoReach_4, if_pos ((lt_n W (by omega)).mpr hk), ix_G (by omega) (by omega), Option.bind_some, e3, if_pos q, ofNat_succ]
      · intro x
        rw [g x]
        by_cases q1 : x < k
        · rw [if_pos q1, if_pos (by omega)]
        · rw [if_neg q1]
          by_cases q2 : x = k
          · subst q2; rw [if_pos (by omega), q]; simp
          · rw [if_neg (by omega)]
      · rw [r]
        constructor
        · intro hh x hx
          by_cases q2 : x = k
          · subst q2; exact q
          · exact hh x (by omega)
        · intro hh x hx; exact hh x (by omega)
    · refine ⟨1, Jvm.AM.sA u 1 ((gA u 1).set k (G (gA u 1) k ||| G (gA u 3) k)), ?_, W.sA (by simp [c1]), F.sA (by simp), ?_, Or.inr rfl, ?_⟩
      · rw [k_mergeDeltaIntoReach_4, if_pos ((lt_n W (by omega)).mpr hk), ix_G (by omega) (by omega), Option.bind_some, if_neg (by rw [e3]; exact q), ix_G (by omega) (by omega), Option.bind_some, st_ofNat _ _ (by omega) (by omega), Option.bind_some, ofNat_succ]
      · intro x
        rw [gA_sA, if_pos rfl, G_set (by omega)]
        by_cases q2 : x = k
        · subst q2; rw [if_pos rfl, if_pos (by omega), g x, if_neg (by omega), e3]
        · rw [if_neg q2, g x]
          by_cases q1 : x < k
          · rw [if_pos q1, if_pos (by omega)]
          · rw [if_neg q1, if_neg (by omega)]
      · constructor
        · intro hh; exact absurd hh (by decide)
        · intro hh; exact absurd (hh k (by omega)) q) (by
    intro n c u ⟨W, F, g, b, r⟩
    rw [k_mergeDeltaIntoReach_4, if_neg (fun hh => absurd ((lt_n W (by have := h.2.1; omega)).mp hh) (by omega))]) BIG 0 s (by have := h.2.1; unfold BIG; omega) ⟨h, Fx.refl .., fun x => by rw [if_neg (by omega)], Or.inl rfl, by simp⟩
  refine ⟨_, s', e, F, W, g, ?_⟩
  rcases b with rfl | rfl
  · rw [← r]; exact ⟨fun _ => rfl, fun _ => by decide⟩
  · rw [← r]; exact ⟨fun hh => absurd hh (by decide), fun hh => absurd hh (by decide)⟩
theorem gatherDelta_ok {N : Nat} {s : S} (h : Wf N s) {x : Nat} (hx : x < 32) : ∃ w, k_gatherDelta (Int32.ofNat x) s = some w ∧ ∀ z, bt w z = true ↔ ∃ y, y < N ∧ tb (gA s 0) x y = true ∧ tb (gA s 3) y z = true := by
  obtain ⟨a, b, c0, c1, c2, c3, c4, c5⟩ := id h
  obtain ⟨w, u, e, rfl, g⟩ := run_for2 (fun n c k u => k_gatherDelta_12 n (G (gA s 0) x) c k u) (fun c u => some c) N (fun k c u => u = s ∧ ∀ z, bt c z = true ↔ ∃ y, y < k ∧ tb (gA s 0) x y = true ∧ tb (gA s 3) y z = true) (by
    intro n k c u hk ⟨hu, g⟩
    subst hu
    by_cases q : bt (G (gA u 0) x) k = false
    · refine ⟨c, u, ?_, rfl, ?_⟩
      · show k_gatherDelta_12 (n + 1) _ _ _ _ = k_gatherDelta_12 n _ _ _ _
        rw [k_gatherDelta_12, if_pos ((lt_n h (by omega)).mpr hk), if_pos ((test_bit _ (by omega)).mpr q), ofNat_succ]
      · intro z
        rw [g z]
        constructor
        · rintro ⟨y, h1, h2, h3⟩; exact ⟨y, by omega, h2, h3⟩
        · rintro ⟨y, h1, h2, h3⟩
          refine ⟨y, ?_, h2, h3⟩
          have : y ≠ k := fun e => by subst e; rw [show tb (gA u 0) x y = bt (G (gA u 0) x) y from rfl, q] at h2; cases h2
          omega
    · refine ⟨c ||| G (gA u 3) k, u, ?_, rfl, ?_⟩
      · show k_gatherDelta_12 (n + 1) _ _ _ _ = k_gatherDelta_12 n _ _ _ _
        rw [k_gatherDelta_12, if_pos ((lt_n h (by omega)).mpr hk), if_neg (fun hh => q ((test_bit _ (by omega)).mp hh)), ix_G (by omega) (by omega), Option.bind_some, ofNat_succ]
      · intro z
        rw [bt_or, Bool.or_eq_true, g z]
        constructor
        · rintro (⟨y, h1, h2, h3⟩ | h3)
          · exact ⟨y, by omega, h2, h3⟩
          · exact ⟨k, by omega, by simpa [tb] using q, h3⟩
        · rintro ⟨y, h1, h2, h3⟩
          by_cases e : y = k
          · subst e; exact Or.inr h3
          · exact Or.inl ⟨y, by omega, h2, h3⟩) (by
    intro n c u ⟨hu, g⟩
    subst hu
    show k_gatherDelta_12 (n + 1) _ _ _ _ = _
    rw [k_gatherDelta_12, if_neg (fun hh => absurd ((lt_n h (by omega)).mp hh) (by omega))]) BIG 0 s (by unfold BIG; omega) ⟨rfl, fun z => by rw [bt_zero]; simp⟩
  refine ⟨w, ?_, g⟩
  unfold k_gatherDelta
  rw [ix_G (by omega) (by omega), Option.bind_some]
  exact e
theorem next_ok {N : Nat} {s : S} (h : Wf N s) : ∃ s', k_computeNextAdditions s = some s' ∧ Fx [] [] [4] [] s s' ∧ Wf N s' ∧ (∀ x z, x < N → (tb (gA s' 4) x z = true ↔ (∃ y, y < N ∧ tb (gA s 0) x y = true ∧ tb (gA s 3) y z = true) ∧ tb (gA s 1) x z = false)) ∧ ∀ x, N ≤ x → G (gA s' 4) x = G (gA s 4) x := by
  obtain ⟨s', e, W, F, g, g'⟩ := run_for k_computeNextAdditions_2 some N (fun k u => Wf N u ∧ Fx [] [] [4] [] s u ∧ (∀ x z, x < k → (tb (gA u 4) x z = true ↔ (∃ y, y < N ∧ tb (gA s 0) x y = true ∧ tb (gA s 3) y z = true) ∧ tb (gA s 1) x z = false)) ∧ ∀ x, k ≤ x → G (gA u 4) x = G (gA s 4) x) (by
    intro n k u hk ⟨W, F, g, g'⟩
    obtain ⟨a, b, c0, c1, c2, c3, c4, c5⟩ := id W
    obtain ⟨w, ew, hw⟩ := gatherDelta_ok W (x := k) (by omega)
    refine ⟨Jvm.AM.sA u 4 ((gA u 4).set k (w &&& (G (gA u 1) k ^^^ (-1)))), ?_, W.sA (by simp [c4]), F.sA (by simp), ?_, ?_⟩
    · rw [k_computeNextAdditions_2, if_pos ((lt_n W (by omega)).mpr hk), ew, Option.bind_some, ix_G (by omega) (by omega), Option.bind_some, st_ofNat _ _ (by omega) (by omega), Option.bind_some, ofNat_succ]
    · intro x z hx
      unfold tb
      rw [gA_sA, if_pos rfl, G_set (by omega)]
      by_cases q : x = k
      · subst q
        rw [if_pos rfl, bt_andn, Bool.and_eq_true, hw z, F.2.2.1 0 (by simp), F.2.2.1 3 (by simp), F.2.2.1 1 (by simp)]
        simp [tb]
      · rw [if_neg q]; exact g x z (by omega)
    · intro x hx
      rw [gA_sA, if_pos rfl, G_set (by omega), if_neg (by omega)]; exact g' x (by omega)) (by
    intro n u ⟨W, _⟩
    rw [k_computeNextAdditions_2, if_neg (fun hh => absurd ((lt_n W (by have := h.2.1; omega)).mp hh) (by omega))]) BIG s (by have := h.2.1; unfold BIG; omega) ⟨h, Fx.refl .., fun x z hx => absurd hx (Nat.not_lt_zero _), fun _ _ => rfl⟩
  exact ⟨s', e, F, W, g, g'⟩
/-- all bits lie below N -/
def Sub (N : Nat) (l : List Int32) : Prop := ∀ x y, tb l x y = true → x < N ∧ y < N
/-- the pairs below N, and how many of them a row list lacks -/
def prs (N : Nat) : List (Nat × Nat) := (List.range N).flatMap fun x => (List.range N).map fun y => (x, y)
theorem mem_prs {N x y : Nat} : (x, y) ∈ prs N ↔ x < N ∧ y < N := by simp [prs]
def lack (N : Nat) (l : List Int32) : Nat := (prs N).countP fun p => !tb l p.1 p.2
theorem countP_lt {A : Type} {p q : A → Bool} : ∀ {l : List A}, (∀ a, a ∈ l → p a = true → q a = true) → (∃ a, a ∈ l ∧ q a = true ∧ p a = false) → l.countP p < l.countP q
  | [], _, h => by obtain ⟨a, h, _⟩ := h; cases h
  | b :: l, m, h => by
    have mono : l.countP p ≤ l.countP q := List.countP_mono_left fun a ha => m a (List.mem_cons_of_mem _ ha)
    simp only [List.countP_cons]
    by_cases e : q b = true ∧ p b = false
    · rw [e.1, e.2]; simp; omega
    · have h' : ∃ a, a ∈ l ∧ q a = true ∧ p a = false := by
        obtain ⟨a, h1, h2⟩ := h
        rcases List.mem_cons.mp h1 with rfl | h1
        · exact absurd h2 e
        · exact ⟨a, h1, h2⟩
      have ih := countP_lt (fun a ha => m a (List.mem_cons_of_mem _ ha)) h'
      have mb := m b (List.mem_cons_self ..)
      by_cases pb : p b = true
      · rw [pb, mb pb]; omega
      · have pb' : p b = false := by simpa using pb
        rw [pb']; simp; split <;> omega
theorem lack_le (N : Nat) (l : List Int32) : lack N l ≤ N * N := by
  have h := List.countP_le_length (p := fun p : Nat × Nat => !tb l p.1 p.2) (l := prs N)
  have e : (prs N).length = N * N := by simp [prs, List.length_flatMap, List.map_const']
  unfold lack; omega
theorem G_ne {N : Nat} {l : List Int32} {x : Nat} (h : Sub N l) (q : ¬ G l x = 0) : ∃ z, z < N ∧ tb l x z = true := by
  apply Classical.byContradiction
  intro hh
  apply q
  refine bt_eq0.mpr fun y hy => ?_
  by_cases e : bt (G l x) y = true
  · exact absurd ⟨y, (h x y e).2, e⟩ hh
  · simpa using e
/-- what the rounds of insertion keep -/
def PA (N : Nat) (T : Nat → Nat → Prop) (s : S) : Prop := Wf N s ∧ gI s 4 = Int32.ofNat (N * N + 2) ∧ Sub N (gA s 0) ∧ Sub N (gA s 1) ∧ Sub N (gA s 3) ∧ (∀ x, N ≤ x → G (gA s 4) x = 0) ∧
  (∀ x y z, tb (gA s 0) x y = true → tb (gA s 1) y z = true → tb (gA s 1) x z = true ∨ tb (gA s 3) x z = true) ∧ (∀ x y, tb (gA s 0) x y = true → tb (gA s 1) x y = true ∨ tb (gA s 3) x y = true) ∧
  (∀ x z, tb (gA s 3) x z = true → tb (gA s 1) x z = false) ∧ (∀ x z, tb (gA s 1) x z = true ∨ tb (gA s 3) x z = true → T x z) ∧ (∀ x y z, tb (gA s 0) x y = true → T y z → T x z)
theorem prop_ok {N : Nat} {T : Nat → Nat → Prop} : ∀ (m n r : Nat) (s : S), PA N T s → lack N (gA s 1) ≤ m → r + m ≤ N * N → m + 1 < n →
    ∃ s', k_propagateAdditions_2 n (Int32.ofNat r) s = some s' ∧ Fx [] [] [1, 3, 4] [] s s' ∧ Wf N s' ∧ Sub N (gA s' 1) ∧ (∀ x y, tb (gA s 0) x y = true → tb (gA s' 1) x y = true) ∧ (∀ x y z, tb (gA s 0) x y = true → tb (gA s' 1) y z = true → tb (gA s' 1) x z = true) ∧ (∀ x z, tb (gA s 1) x z = true → tb (gA s' 1) x z = true) ∧ (∀ x z, tb (gA s' 1) x z = true → T x z) := by
  intro m
  induction m with
  | zero =>
    intro n r s hP hl hr hn
    obtain ⟨W, h4, sE, sR, sD, d4, hA, hB, hC, hT, hT2⟩ := hP
    obtain ⟨n, rfl⟩ : ∃ k, n = k + 1 := ⟨n - 1, by omega⟩
    obtain ⟨q, u, e, F, Wu, g, hq⟩ := merge_ok W
    have hN := W.2.1
    have hNN : N * N ≤ 1024 := by have := Nat.mul_le_mul hN hN; omega
    have e1 : Int32.ofNat r < gI s 4 := by rw [h4]; exact (ofNat_lt (by omega) (by omega)).mpr (by omega)
    have noD : ∀ x, x < N → G (gA s 3) x = 0 := fun x hx => by
      apply Classical.byContradiction
      intro hh
      obtain ⟨z, hz, h1⟩ := G_ne sD hh
      have h2 := hC x z h1
      have h3 : lack N (gA s 1) > 0 := List.countP_pos_iff.mpr ⟨(x, z), mem_prs.mpr ⟨hx, hz⟩, by simp [h2]⟩
      omega
    have noD' : ∀ x z, tb (gA s 3) x z = false := fun x z => by
      by_cases q : tb (gA s 3) x z = true
      · have := sD x z q
        unfold tb at q
        rw [noD x this.1, bt_zero] at q; cases q
      · simpa using q
    have gR : ∀ x, G (gA u 1) x = G (gA s 1) x := fun x => by
      rw [g x]
      by_cases q : x < N
      · rw [if_pos q, noD x q]; simp
      · rw [if_neg q]
    have tR : ∀ x z, tb (gA u 1) x z = tb (gA s 1) x z := fun x z => by unfold tb; rw [gR x]
    refine ⟨u, ?_, F.mono (by simp) (by simp) (by simp) (by simp), Wu, ?_, ?_, ?_, ?_, ?_⟩
    · rw [k_propagateAdditions_2, if_pos e1, e, Option.bind_some, if_pos (hq.mpr noD)]
    · intro x y hh; rw [tR] at hh; exact sR x y hh
    · intro x y hh; rw [tR]; exact (hB x y hh).resolve_right (by rw [noD']; simp)
    · intro x y z h1 h2; rw [tR] at h2 ⊢; exact (hA x y z h1 h2).resolve_right (by rw [noD']; simp)
    · intro x z hh; rw [tR]; exact hh
    · intro x z hh; rw [tR] at hh; exact hT x z (Or.inl hh)
  | succ m ih =>
    intro n r s hP hl hr hn
    obtain ⟨W, h4, sE, sR, sD, d4, hA, hB, hC, hT, hT2⟩ := hP
    obtain ⟨n, rfl⟩ : ∃ k, n = k + 1 := ⟨n - 1, by omega⟩
    obtain ⟨q, u, e, F, Wu, g, hq⟩ := merge_ok W
    have hN := W.2.1
    have hNN : N * N ≤ 1024 := by have := Nat.mul_le_mul hN hN; omega
    have e1 : Int32.ofNat r < gI s 4 := by rw [h4]; exact (ofNat_lt (by omega) (by omega)).mpr (by omega)
    have tR : ∀ x z, tb (gA u 1) x z = true ↔ tb (gA s 1) x z = true ∨ tb (gA s 3) x z = true := fun x z => by
      unfold tb
      rw [g x]
      by_cases q : x < N
      · rw [if_pos q, bt_or, Bool.or_eq_true]
      · rw [if_neg q]
        constructor
        · exact Or.inl
        · rintro (hh | hh)
          · exact hh
          · exact absurd (sD x z hh).1 q
    have sRu : Sub N (gA u 1) := fun x z hh => ((tR x z).mp hh).elim (sR x z) (sD x z)
    have u0 : gA u 0 = gA s 0 := F.2.2.1 0 (by simp)
    have u3 : gA u 3 = gA s 3 := F.2.2.1 3 (by simp)
    have u4 : gA u 4 = gA s 4 := F.2.2.1 4 (by simp)
    by_cases hd : ∀ x, x < N → G (gA s 3) x = 0
    · have noD' : ∀ x z, tb (gA s 3) x z = false := fun x z => by
        by_cases q : tb (gA s 3) x z = true
        · have := sD x z q
          unfold tb at q
          rw [hd x this.1, bt_zero] at q; cases q
        · simpa using q
      refine ⟨u, ?_, F.mono (by simp) (by simp) (by simp) (by simp), Wu, sRu, ?_, ?_, ?_, ?_⟩
      · rw [k_propagateAdditions_2, if_pos e1, e, Option.bind_some, if_pos (hq.mpr hd)]
      · intro x y hh; exact (tR x y).mpr (hB x y hh)
      · intro x y z h1 h2
        refine (tR x z).mpr (hA x y z h1 (((tR y z).mp h2).resolve_right (by rw [noD']; simp)))
      · intro x z hh; exact (tR x z).mpr (Or.inl hh)
      · intro x z hh; exact hT x z ((tR x z).mp hh)
    · obtain ⟨v, ev, Fv, Wv, gv, gv'⟩ := next_ok Wu
      obtain ⟨w, ew, Fw, gw, Ww, zw⟩ := shift_ok Wv
      have w0 : gA w 0 = gA s 0 := by rw [Fw.2.2.1 0 (by simp), Fv.2.2.1 0 (by simp), u0]
      have w1 : gA w 1 = gA u 1 := by rw [Fw.2.2.1 1 (by simp), Fv.2.2.1 1 (by simp)]
      have wI : ∀ f, gI w f = gI s f := fun f => by rw [Fw.1 f (by simp), Fv.1 f (by simp), F.1 f (by simp)]
      have t3 : ∀ x z, x < N → (tb (gA w 3) x z = true ↔ (∃ y, y < N ∧ tb (gA s 0) x y = true ∧ tb (gA s 3) y z = true) ∧ tb (gA u 1) x z = false) := fun x z hx => by rw [gw, gv x z hx, u0, u3]
      have z3 : ∀ x z, N ≤ x → tb (gA w 3) x z = false := fun x z hx => by unfold tb; rw [gw, gv' x hx, u4, d4 x hx, bt_zero]
      have sDw : Sub N (gA w 3) := fun x z hh => by
        by_cases hx : x < N
        · obtain ⟨⟨y, h1, h2, h3⟩, _⟩ := (t3 x z hx).mp hh
          exact ⟨hx, (sD y z h3).2⟩
        · rw [z3 x z (by omega)] at hh; cases hh
      have z4 : ∀ x, N ≤ x → G (gA w 4) x = 0 := fun x _ => by rw [zw, G_rep]
      have hlt : lack N (gA w 1) < lack N (gA s 1) := by
        rw [w1]
        apply countP_lt
        · intro p _ hp
          have : tb (gA u 1) p.1 p.2 = false := by simpa using hp
          have h2 : ¬ tb (gA s 1) p.1 p.2 = true := fun hh => by rw [(tR _ _).mpr (Or.inl hh)] at this; cases this
          simpa using h2
        · obtain ⟨x, hx⟩ : ∃ x, ¬ (x < N → G (gA s 3) x = 0) := Classical.not_forall.mp hd
          have hx' := Classical.not_imp.mp hx
          obtain ⟨z, hz, h1⟩ := G_ne sD hx'.2
          exact ⟨(x, z), mem_prs.mpr ⟨hx'.1, hz⟩, by simp [hC x z h1], by simp [(tR x z).mpr (Or.inr h1)]⟩
      have hPw : PA N T w := by
        refine ⟨Ww, by rw [wI]; exact h4, by rw [w0]; exact sE, by rw [w1]; exact sRu, sDw, z4, ?_, ?_, ?_, ?_, ?_⟩
        · intro x y z h1 h2
          rw [w0] at h1; rw [w1] at h2 ⊢
          by_cases hh : tb (gA u 1) x z = true
          · exact Or.inl hh
          · refine Or.inr ((t3 x z (sE x y h1).1).mpr ⟨⟨y, (sE x y h1).2, h1, ?_⟩, by simpa using hh⟩)
            rcases (tR y z).mp h2 with h3 | h3
            · exact absurd ((tR x z).mpr (hA x y z h1 h3)) hh
            · exact h3
        · intro x y h1
          rw [w0] at h1; rw [w1]
          exact Or.inl ((tR x y).mpr (hB x y h1))
        · intro x z hh
          rw [w1]
          exact ((t3 x z (sDw x z hh).1).mp hh).2
        · intro x z hh
          rw [w1] at hh
          rcases hh with hh | hh
          · exact hT x z ((tR x z).mp hh)
          · obtain ⟨⟨y, h1, h2, h3⟩, _⟩ := (t3 x z (sDw x z hh).1).mp hh
            exact hT2 x y z h2 (hT y z (Or.inr h3))
        · intro x y z h1 h2; rw [w0] at h1; exact hT2 x y z h1 h2
      obtain ⟨s', es, Fs, Ws, sRs, c1, c2, c3, c4⟩ := ih n (r + 1) w hPw (by omega) (by omega) (by omega)
      have Fall : Fx [] [] [1, 3, 4] [] s w := (F.mono (by simp) (by simp) (by simp) (by simp)).trans ((Fv.mono (by simp) (by simp) (by simp) (by simp)).trans (Fw.mono (by simp) (by simp) (by simp) (by simp)))
      refine ⟨s', ?_, Fall.trans Fs, Ws, sRs, ?_, ?_, ?_, c4⟩
      · rw [k_propagateAdditions_2, if_pos e1, e, Option.bind_some, if_neg (fun hh => hd (hq.mp hh)), ev, Option.bind_some, ew, Option.bind_some, ofNat_succ]; exact es
      · rw [w0] at c1; exact c1
      · rw [w0] at c2; exact c2
      · intro x z hh; exact c3 x z (by rw [w1]; exact (tR x z).mpr (Or.inl hh))
/-- reachability along the edges, in one step or more -/
def TC (E : Nat → Nat → Prop) (x z : Nat) : Prop := ∀ P : Nat → Nat → Prop, (∀ x y, E x y → P x y) → (∀ x y z, E x y → P y z → P x z) → P x z
theorem TC.base {E : Nat → Nat → Prop} {x y : Nat} (h : E x y) : TC E x y := fun P a _ => a x y h
theorem TC.step {E : Nat → Nat → Prop} {x y z : Nat} (h : E x y) (t : TC E y z) : TC E x z := fun P a b => b x y z h (t P a b)
theorem TC.mono {E E' : Nat → Nat → Prop} (h : ∀ x y, E x y → E' x y) {x z : Nat} (t : TC E x z) : TC E' x z := t _ (fun x y e => TC.base (h x y e)) fun x y z e p => TC.step (h x y e) p
theorem TC.congr {E E' : Nat → Nat → Prop} (h : ∀ x y, E x y ↔ E' x y) {x z : Nat} : TC E x z ↔ TC E' x z := ⟨TC.mono fun x y => (h x y).mp, TC.mono fun x y => (h x y).mpr⟩
/-- the edges, as a relation -/
def Ed (s : S) (x y : Nat) : Prop := tb (gA s 0) x y = true
/-- the class's invariant: the view is the edges' reachability -/
def Cl (N : Nat) (s : S) : Prop := Wf N s ∧ gI s 4 = Int32.ofNat (N * N + 2) ∧ Sub N (gA s 0) ∧ ∀ x z, tb (gA s 1) x z = true ↔ TC (Ed s) x z
theorem TC.sub {N : Nat} {s : S} (h : Sub N (gA s 0)) {x z : Nat} (t : TC (Ed s) x z) : x < N ∧ z < N := t (fun x z => x < N ∧ z < N) (fun x y e => h x y e) fun x y z e p => ⟨(h x y e).1, p.2⟩
theorem Cl.sub {N : Nat} {s : S} (h : Cl N s) : Sub N (gA s 1) := fun x z q => TC.sub h.2.2.1 ((h.2.2.2 x z).mp q)
theorem prop_full {N : Nat} {T : Nat → Nat → Prop} {s : S} (hP : PA N T s) : ∃ s', k_propagateAdditions s = some s' ∧ Fx [] [] [1, 3, 4] [] s s' ∧ Wf N s' ∧ Sub N (gA s' 1) ∧ (∀ x y, tb (gA s 0) x y = true → tb (gA s' 1) x y = true) ∧ (∀ x y z, tb (gA s 0) x y = true → tb (gA s' 1) y z = true → tb (gA s' 1) x z = true) ∧ (∀ x z, tb (gA s 1) x z = true → tb (gA s' 1) x z = true) ∧ (∀ x z, tb (gA s' 1) x z = true → T x z) := by
  have hN := hP.1.2.1
  have hNN : N * N ≤ 1024 := by have := Nat.mul_le_mul hN hN; omega
  exact prop_ok (N * N) BIG 0 s hP (lack_le N _) (by omega) (by unfold BIG; omega)
theorem tb_rep (n x y : Nat) : tb (rep n 0) x y = false := by unfold tb; rw [G_rep, bt_zero]
theorem tb_set {l : List Int32} {a : Nat} (h : a < l.length) (w : Int32) (x y : Nat) : tb (l.set a w) x y = if x = a then bt w y else tb l x y := by
  unfold tb; rw [G_set h]; split <;> rfl
theorem add_ok {N : Nat} {s : S} (h : Cl N s) {a b : Nat} (ha : a < N) (hb : b < N) : ∃ s', k_addEdgeAndPropagate (Int32.ofNat a) (Int32.ofNat b) s = some s' ∧ Fx [5] [] [0, 1, 3, 4] [] s s' ∧ Cl N s' ∧ gI s' 5 = gI s 5 + 1 ∧ (∀ x y, Ed s' x y ↔ Ed s x y ∨ (x = a ∧ y = b)) ∧ (∀ x z, tb (gA s 1) x z = true → tb (gA s' 1) x z = true) := by
  obtain ⟨W, h4, sE, hR⟩ := id h
  have sR := h.sub
  obtain ⟨a1, hN, c0, c1, c2, c3, c4, c5⟩ := id W
  have bbit : ∀ y, bt (k_bit (Int32.ofNat b)) y = decide (y = b) := fun y => shl_bit (by omega) y
  -- the new edge
  obtain ⟨t, ht⟩ : ∃ t, t = Jvm.AM.sI (Jvm.AM.sA s 0 ((gA s 0).set a (G (gA s 0) a ||| k_bit (Int32.ofNat b)))) 5 (gI s 5 + 1) := ⟨_, rfl⟩
  have Wt : Wf N t := by rw [ht]; exact (W.sA (by simp [c0])).sI (by decide)
  have Ft : Fx [5] [] [0, 1, 3, 4] [] s t := by rw [ht]; exact ((Fx.refl ..).sA (by simp)).sI (by simp)
  have t0 : ∀ x y, tb (gA t 0) x y = true ↔ tb (gA s 0) x y = true ∨ (x = a ∧ y = b) := fun x y => by
    rw [ht, gA_sI, gA_sA, if_pos rfl, tb_set (by omega)]
    by_cases q : x = a
    · subst q
      rw [if_pos rfl, bt_or, bbit, Bool.or_eq_true]
      simp [tb]
    · rw [if_neg q]; simp [q]
  have tA : ∀ f, f ≠ 0 → gA t f = gA s f := fun f hf => by rw [ht, gA_sI, gA_sA, if_neg hf]
  have tI : ∀ f, gI t f = if f = 5 then gI s 5 + 1 else gI s f := fun f => by rw [ht, gI_sI, gI_sA]
  obtain ⟨u, eu, Fu, u3, u4, Wu⟩ := clearDelta_ok Wt
  have u0 : gA u 0 = gA t 0 := Fu.2.2.1 0 (by simp)
  have u1 : gA u 1 = gA s 1 := by rw [Fu.2.2.1 1 (by simp), tA 1 (by decide)]
  obtain ⟨v, hv⟩ : ∃ v, v = Jvm.AM.sA u 3 ((gA u 3).set a ((k_bit (Int32.ofNat b) ||| G (gA u 1) b) &&& (G (gA u 1) a ^^^ (-1)))) := ⟨_, rfl⟩
  have lu3 := Wu.2.2.2.2.2.1
  have Wv : Wf N v := by rw [hv]; exact Wu.sA (by simp [lu3])
  have vA : ∀ f, f ≠ 3 → gA v f = gA u f := fun f hf => by rw [hv, gA_sA, if_neg hf]
  have vI : ∀ f, gI v f = gI u f := fun f => by rw [hv, gI_sA]
  have v3 : ∀ x z, tb (gA v 3) x z = true ↔ x = a ∧ (z = b ∨ tb (gA s 1) b z = true) ∧ tb (gA s 1) a z = false := fun x z => by
    rw [hv, gA_sA, if_pos rfl, tb_set (by omega)]
    by_cases q : x = a
    · subst q
      rw [if_pos rfl, bt_andn, bt_or, bbit, u1]
      simp [tb]
    · rw [if_neg q, u3, tb_rep]; simp [q]
  have v0 : ∀ x y, tb (gA v 0) x y = true ↔ tb (gA s 0) x y = true ∨ (x = a ∧ y = b) := fun x y => by rw [vA 0 (by decide), u0]; exact t0 x y
  have v1 : gA v 1 = gA s 1 := by rw [vA 1 (by decide), u1]
  have hPA : PA N (TC (Ed v)) v := by
    have mono : ∀ x z, tb (gA s 1) x z = true → TC (Ed v) x z := fun x z hh => TC.mono (fun x y e => (v0 x y).mpr (Or.inl e)) ((hR x z).mp hh)
    refine ⟨Wv, ?_, ?_, by rw [v1]; exact sR, ?_, ?_, ?_, ?_, ?_, ?_, fun x y z e p => TC.step e p⟩
    · rw [vI, Fu.1 4 (by simp), tI]; exact h4
    · intro x y hh
      rcases (v0 x y).mp hh with hh | ⟨rfl, rfl⟩
      · exact sE x y hh
      · exact ⟨ha, hb⟩
    · intro x z hh
      obtain ⟨rfl, hz, _⟩ := (v3 x z).mp hh
      rcases hz with rfl | hz
      · exact ⟨ha, hb⟩
      · exact ⟨ha, (sR b z hz).2⟩
    · intro x _; rw [vA 4 (by decide), u4, G_rep]
    · intro x y z h1 h2
      rw [v1] at h2 ⊢
      rcases (v0 x y).mp h1 with hh | ⟨rfl, rfl⟩
      · exact Or.inl ((hR x z).mpr (TC.step hh ((hR y z).mp h2)))
      · by_cases q : tb (gA s 1) x z = true
        · exact Or.inl q
        · exact Or.inr ((v3 x z).mpr ⟨rfl, Or.inr h2, by simpa using q⟩)
    · intro x y h1
      rw [v1]
      rcases (v0 x y).mp h1 with hh | ⟨rfl, rfl⟩
      · exact Or.inl ((hR x y).mpr (TC.base hh))
      · by_cases q : tb (gA s 1) x y = true
        · exact Or.inl q
        · exact Or.inr ((v3 x y).mpr ⟨rfl, Or.inl rfl, by simpa using q⟩)
    · intro x z hh
      obtain ⟨rfl, _, hz⟩ := (v3 x z).mp hh
      rw [v1]; exact hz
    · intro x z hh
      rw [v1] at hh
      rcases hh with hh | hh
      · exact mono x z hh
      · obtain ⟨rfl, hz, _⟩ := (v3 x z).mp hh
        have e : Ed v x b := (v0 x b).mpr (Or.inr ⟨rfl, rfl⟩)
        rcases hz with rfl | hz
        · exact TC.base e
        · exact TC.step e (mono b z hz)
  obtain ⟨s', es, Fs, Ws, sRs, d1, d2, d3, d4⟩ := prop_full hPA
  have s0' : gA s' 0 = gA v 0 := Fs.2.2.1 0 (by simp)
  have Fv : Fx [5] [] [0, 1, 3, 4] [] s v := by rw [hv]; exact (Ft.trans (Fu.mono (by simp) (by simp) (by simp) (by simp))).sA (by simp)
  refine ⟨s', ?_, Fv.trans (Fs.mono (by simp) (by simp) (by simp) (by simp)), ⟨Ws, ?_, ?_, ?_⟩, ?_, ?_, ?_⟩
  · unfold k_addEdgeAndPropagate
    rw [ix_G (by omega) (by omega), Option.bind_some, st_ofNat _ _ (by omega) (by omega), Option.bind_some, ← ht, eu, Option.bind_some]
    have l1 : (gA u 1).length = 32 := Wu.2.2.2.1
    rw [ix_G (by omega) (by omega), Option.bind_some, ix_G (by omega) (by omega), Option.bind_some, st_ofNat _ _ (by omega) (by omega), Option.bind_some, ← hv, es, Option.bind_some]
  · rw [Fs.1 4 (by simp), vI, Fu.1 4 (by simp), tI]; exact h4
  · rw [s0']; exact hPA.2.2.1
  · intro x z
    have eEd : ∀ x y, Ed s' x y ↔ Ed v x y := fun x y => by unfold Ed; rw [s0']
    rw [TC.congr eEd]
    exact ⟨d4 x z, fun tc => tc (fun x z => tb (gA s' 1) x z = true) d1 d2⟩
  · rw [Fs.1 5 (by simp), vI, Fu.1 5 (by simp), tI, if_pos rfl]
  · intro x y; unfold Ed; rw [s0']; exact v0 x y
  · intro x z hh; exact d3 x z (by rw [v1]; exact hh)
/-! ### DredViewKeeper: counts, the public methods -/
theorem pop_tab : ∀ m : Fin 256, k_popCount (Int32.ofNat m.val) = Int32.ofNat ((List.range 8).countP (bt (Int32.ofNat m.val))) := by decide +kernel
def rc (N : Nat) (w : Int32) : Nat := (List.range N).countP (bt w)
theorem pop_ok {N : Nat} (hN : N ≤ 8) {w : Int32} (h : ∀ y, bt w y = true → y < N) : k_popCount w = Int32.ofNat (rc N w) := by
  have h8 : ∀ y, 8 ≤ y → bt w y = false := fun y hy => by
    by_cases q : bt w y = true
    · have := h y q; omega
    · simpa using q
  have hlt : w.toBitVec.toNat < 256 := by
    apply Nat.lt_pow_two_of_testBit (n := 8)
    intro i hi
    exact h8 i hi
  have e : w = Int32.ofNat w.toBitVec.toNat := by
    apply Int32.toBitVec_inj.mp
    show w.toBitVec = BitVec.ofNat 32 w.toBitVec.toNat
    simp
  have hp := pop_tab ⟨w.toBitVec.toNat, hlt⟩
  simp only at hp
  rw [← e] at hp
  rw [hp]
  congr 1
  -- the bits from N on are not set
  unfold rc
  have : List.range 8 = List.range N ++ (List.range (8 - N)).map (N + ·) := by
    rw [← List.range_add]; congr 1; omega
  rw [this, List.countP_append]
  have z : ((List.range (8 - N)).map (N + ·)).countP (bt w) = 0 := by
    rw [List.countP_eq_zero]
    intro y hy
    obtain ⟨i, _, rfl⟩ := List.mem_map.mp hy
    intro q
    have := h _ q; omega
  rw [z]; rfl
def sumTo (f : Nat → Nat) : Nat → Nat
  | 0 => 0
  | k + 1 => sumTo f k + f k
theorem sumTo_range (f : Nat → Nat) : ∀ k, ((List.range k).map f).sum = sumTo f k
  | 0 => rfl
  | k + 1 => by rw [List.range_succ, List.map_append, List.sum_append, sumTo_range f k]; simp [sumTo]
theorem sumTo_congr {f g : Nat → Nat} : ∀ {k : Nat}, (∀ x, x < k → f x = g x) → sumTo f k = sumTo g k
  | 0, _ => rfl
  | k + 1, h => by simp only [sumTo]; rw [sumTo_congr fun x hx => h x (by omega), h k (by omega)]
/-- how many pairs a test picks, by rows -/
def cnt (N : Nat) (f : Nat → Nat → Bool) : Nat := (prs N).countP fun p => f p.1 p.2
theorem cnt_rows (N : Nat) (f : Nat → Nat → Bool) : cnt N f = sumTo (fun x => (List.range N).countP (f x)) N := by
  unfold cnt prs
  rw [List.countP_flatMap, ← sumTo_range]
  congr 1
  apply List.map_congr_left
  intro x _
  simp [List.countP_map, Function.comp_def]
theorem cnt_le (N : Nat) (f : Nat → Nat → Bool) : cnt N f ≤ N * N := by
  have h := List.countP_le_length (p := fun p : Nat × Nat => f p.1 p.2) (l := prs N)
  have e : (prs N).length = N * N := by simp [prs, List.length_flatMap, List.map_const']
  unfold cnt; omega
theorem viewSize_ok {N : Nat} {s : S} (h : Wf N s) (hN : N ≤ 8) (sR : Sub N (gA s 1)) : k_viewSize s = some (Int32.ofNat (cnt N (tb (gA s 1)))) := by
  obtain ⟨a, b, c0, c1, c2, c3, c4, c5⟩ := id h
  obtain ⟨w, u, e, rfl, g⟩ := run_for2 k_viewSize_4 (fun c u => some c) N (fun k c u => u = s ∧ c = Int32.ofNat (sumTo (fun x => rc N (G (gA s 1) x)) k)) (by
    intro n k c u hk ⟨hu, hc⟩
    subst hu hc
    refine ⟨_, u, ?_, rfl, rfl⟩
    rw [k_viewSize_4, if_pos ((lt_n h (by omega)).mpr hk), ix_G (by omega) (by omega), Option.bind_some, pop_ok hN (fun y hy => (sR k y hy).2), ofNat_add', ofNat_succ]; rfl) (by
    intro n c u ⟨hu, _⟩
    subst hu
    rw [k_viewSize_4, if_neg (fun hh => absurd ((lt_n h (by omega)).mp hh) (by omega))]) BIG 0 s (by unfold BIG; omega) ⟨rfl, rfl⟩
  rw [show k_viewSize u = k_viewSize_4 BIG 0 (Int32.ofNat 0) u from rfl, e, g, cnt_rows]; rfl
theorem countAdded_ok {N : Nat} {s : S} (h : Wf N s) (hN : N ≤ 8) (sR : Sub N (gA s 1)) : k_countAdded s = some (Int32.ofNat (cnt N (fun x y => tb (gA s 1) x y && !tb (gA s 2) x y))) := by
  obtain ⟨a, b, c0, c1, c2, c3, c4, c5⟩ := id h
  obtain ⟨w, u, e, rfl, g⟩ := run_for2 k_countAdded_4 (fun c u => some c) N (fun k c u => u = s ∧ c = Int32.ofNat (sumTo (fun x => rc N (G (gA s 1) x &&& (G (gA s 2) x ^^^ (-1)))) k)) (by
    intro n k c u hk ⟨hu, hc⟩
    subst hu hc
    refine ⟨_, u, ?_, rfl, rfl⟩
    rw [k_countAdded_4, if_pos ((lt_n h (by omega)).mpr hk), ix_G (by omega) (by omega), Option.bind_some, ix_G (by omega) (by omega), Option.bind_some, pop_ok hN (fun y hy => by
      rw [bt_andn, Bool.and_eq_true] at hy; exact (sR k y hy.1).2), ofNat_add', ofNat_succ]; rfl) (by
    intro n c u ⟨hu, _⟩
    subst hu
    rw [k_countAdded_4, if_neg (fun hh => absurd ((lt_n h (by omega)).mp hh) (by omega))]) BIG 0 s (by unfold BIG; omega) ⟨rfl, rfl⟩
  rw [show k_countAdded u = k_countAdded_4 BIG 0 (Int32.ofNat 0) u from rfl, e, g, cnt_rows]
  congr 2
  apply sumTo_congr
  intro x _
  unfold rc
  apply List.countP_congr
  intro y _
  rw [bt_andn]; rfl
theorem sumTo_upd {f g : Nat → Nat} {a d : Nat} (h : ∀ x, x ≠ a → f x = g x) (ha : f a = g a + d) : ∀ {k : Nat}, a < k → sumTo f k = sumTo g k + d
  | 0, hk => absurd hk (Nat.not_lt_zero _)
  | k + 1, hk => by
    simp only [sumTo]
    by_cases e : a = k
    · subst e
      rw [ha, sumTo_congr (g := g) fun x hx => h x (by omega)]; omega
    · rw [sumTo_upd h ha (k := k) (by omega), h k (Ne.symm e)]; omega
theorem countP_range (f : Nat → Bool) (N : Nat) : (List.range N).countP f = sumTo (fun y => if f y then 1 else 0) N := by
  induction N with
  | zero => rfl
  | succ N ih => rw [List.range_succ, List.countP_append, ih]; simp [sumTo, List.countP_cons]
theorem cnt_add {N : Nat} {f g : Nat → Nat → Bool} {a b : Nat} (ha : a < N) (hb : b < N) (h : ∀ x y, ¬ (x = a ∧ y = b) → f x y = g x y) (h1 : f a b = true) (h2 : g a b = false) : cnt N f = cnt N g + 1 := by
  rw [cnt_rows, cnt_rows]
  refine sumTo_upd (a := a) (fun x hx => ?_) ?_ ha
  · apply List.countP_congr
    intro y _
    rw [h x y (fun q => hx q.1)]
  · rw [countP_range, countP_range]
    refine sumTo_upd (a := b) (fun y hy => ?_) ?_ hb
    · rw [h a y (fun q => hy q.2)]
    · rw [h1, h2]; rfl
/-- the whole invariant -/
def Inv (N Mx : Nat) (s : S) : Prop := Cl N s ∧ N ≤ 8 ∧ gI s 3 = Int32.ofNat Mx ∧ Mx ≤ 256 ∧ gI s 5 = Int32.ofNat (cnt N (tb (gA s 0))) ∧ cnt N (tb (gA s 0)) ≤ Mx ∧ (∃ p, gI s 6 = Int32.ofNat p ∧ p ≤ 16) ∧ (gA s 6).length = 16 ∧ (gA s 7).length = 16 ∧ (gA s 8).length = 16
theorem valid_yes {N : Nat} {s : S} (h : Wf N s) {a : Nat} (ha : a < N) : k_isValid (Int32.ofNat a) s = 1 := by
  have := h.2.1
  rw [valid h, if_neg (ofNat_nonneg (by omega)), if_pos ((ofNat_lt (by omega) (by omega)).mpr ha)]
theorem valid_cases {N : Nat} {s : S} (h : Wf N s) (v : Int32) : k_isValid v s = 0 ∨ ∃ a, a < N ∧ v = Int32.ofNat a := by
  have := h.2.1
  by_cases q : v < 0
  · left; rw [valid h, if_pos q]
  · by_cases r : v < Int32.ofNat N
    · right
      exact ⟨v.toNatClampNeg, clamp_lt q r (by omega), (eq_ofNat q).1⟩
    · left; rw [valid h, if_neg q, if_neg r]
theorem present_ok {N : Nat} {s : S} (h : Wf N s) {a b : Nat} (ha : a < N) (hb : b < N) : k_edgePresent (Int32.ofNat a) (Int32.ofNat b) s = some (if tb (gA s 0) a b = true then 1 else 0) := by
  obtain ⟨a1, hN, c0, c1, c2, c3, c4, c5⟩ := id h
  unfold k_edgePresent
  rw [ix_G (by omega) (by omega), Option.bind_some]
  by_cases q : tb (gA s 0) a b = true
  · rw [if_neg (fun hh => by rw [(test_bit _ (by omega)).mp hh |> fun z => (show tb (gA s 0) a b = false from z)] at q; cases q), if_pos q]
  · rw [if_pos ((test_bit _ (by omega)).mpr (by simpa [tb] using q)), if_neg q]
theorem ofNat_inj {a b : Nat} (ha : a < 2147483648) (hb : b < 2147483648) : Int32.ofNat a = Int32.ofNat b ↔ a = b := by
  constructor
  · intro h
    have := congrArg Int32.toInt h
    rw [ofNat_toInt ha, ofNat_toInt hb] at this; omega
  · rintro rfl; rfl
/-- what does not touch the view keeps the invariant -/
theorem Inv.keep {N Mx : Nat} {s t : S} (h : Inv N Mx s) (F : ∀ f, f = 2 ∨ f = 3 ∨ f = 4 ∨ f = 5 ∨ f = 6 → gI t f = gI s f) (A : ∀ f, f ≠ 2 → gA t f = gA s f) (l2 : (gA t 2).length = 32) : Inv N Mx t := by
  obtain ⟨⟨⟨a1, a2, c0, c1, c2, c3, c4, c5⟩, h4, sE, hR⟩, hN, h3, hM, h5, hc, ⟨p, hp, hp2⟩, l6, l7, l8⟩ := h
  have E : ∀ x z, TC (Ed t) x z ↔ TC (Ed s) x z := fun x z => TC.congr fun x y => by unfold Ed; rw [A 0 (by decide)]
  refine ⟨⟨⟨by rw [F 2 (by simp)]; exact a1, a2, by rw [A 0 (by decide)]; exact c0, by rw [A 1 (by decide)]; exact c1, l2, by rw [A 3 (by decide)]; exact c3, by rw [A 4 (by decide)]; exact c4, by rw [A 5 (by decide)]; exact c5⟩, by rw [F 4 (by simp)]; exact h4, by rw [A 0 (by decide)]; exact sE, fun x z => by rw [A 1 (by decide), E]; exact hR x z⟩, hN, by rw [F 3 (by simp)]; exact h3, hM, by rw [F 5 (by simp), A 0 (by decide)]; exact h5, by rw [A 0 (by decide)]; exact hc, ⟨p, by rw [F 6 (by simp)]; exact hp, hp2⟩, by rw [A 6 (by decide)]; exact l6, by rw [A 7 (by decide)]; exact l7, by rw [A 8 (by decide)]; exact l8⟩
/-- a new edge, with room for it -/
theorem inv_add {N Mx : Nat} {s : S} (h : Inv N Mx s) {a b : Nat} (ha : a < N) (hb : b < N) (hne : tb (gA s 0) a b = false) (hroom : cnt N (tb (gA s 0)) < Mx) : ∃ s', k_addEdgeAndPropagate (Int32.ofNat a) (Int32.ofNat b) s = some s' ∧ Fx [5] [] [0, 1, 3, 4] [] s s' ∧ Inv N Mx s' ∧ (∀ x y, Ed s' x y ↔ Ed s x y ∨ (x = a ∧ y = b)) ∧ (∀ x z, tb (gA s 1) x z = true → tb (gA s' 1) x z = true) := by
  obtain ⟨C, hN, h3, hM, h5, hc, ⟨p, hp, hp2⟩, l6, l7, l8⟩ := h
  obtain ⟨s', e, F, C', g5, gE, gR⟩ := add_ok C ha hb
  have ec : cnt N (tb (gA s' 0)) = cnt N (tb (gA s 0)) + 1 := by
    refine cnt_add ha hb (fun x y q => ?_) ((gE a b).mpr (Or.inr ⟨rfl, rfl⟩)) hne
    have := gE x y
    unfold Ed at this
    by_cases q1 : tb (gA s 0) x y = true
    · rw [q1, this.mpr (Or.inl q1)]
    · have q2 : ¬ tb (gA s' 0) x y = true := fun hh => (this.mp hh).elim q1 q
      rw [show tb (gA s 0) x y = false by simpa using q1]; simpa using q2
  refine ⟨s', e, F, ⟨C', hN, by rw [F.1 3 (by simp)]; exact h3, hM, ?_, by omega, ⟨p, by rw [F.1 6 (by simp)]; exact hp, hp2⟩, by rw [F.2.2.1 6 (by simp)]; exact l6, by rw [F.2.2.1 7 (by simp)]; exact l7, by rw [F.2.2.1 8 (by simp)]; exact l8⟩, gE, gR⟩
  rw [g5, h5, ec, ofNat_succ]
/-- insertEdge -/
theorem insert_ok {N Mx : Nat} {s : S} (h : Inv N Mx s) (v w : Int32) : (k_insertEdge v w s = some (-1, s) ∧ (k_isValid v s = 0 ∨ k_isValid w s = 0)) ∨ ∃ a b, a < N ∧ b < N ∧ v = Int32.ofNat a ∧ w = Int32.ofNat b ∧
    ((tb (gA s 0) a b = true ∧ k_insertEdge v w s = some (-2, s)) ∨ (tb (gA s 0) a b = false ∧ cnt N (tb (gA s 0)) = Mx ∧ k_insertEdge v w s = some (-4, s)) ∨
     (tb (gA s 0) a b = false ∧ cnt N (tb (gA s 0)) < Mx ∧ ∃ s', k_insertEdge v w s = some (Int32.ofNat (cnt N (fun x y => tb (gA s' 1) x y && !tb (gA s 1) x y)), s') ∧ Inv N Mx s' ∧ (∀ x y, Ed s' x y ↔ Ed s x y ∨ (x = a ∧ y = b)) ∧
        gI s' 7 = Int32.ofNat (cnt N (fun x y => tb (gA s' 1) x y && !tb (gA s 1) x y)) ∧ gI s' 8 = 0 ∧ gI s' 6 = gI s 6 ∧ gA s' 6 = gA s 6 ∧ gA s' 7 = gA s 7 ∧ gA s' 8 = gA s 8)) := by
  have W := h.1.1
  obtain ⟨C, hN, h3, hM, h5, hc, ⟨p, hp, hp2⟩, l6, l7, l8⟩ := id h
  rcases valid_cases W v with hv | ⟨a, ha, rfl⟩
  · left; refine ⟨?_, Or.inl hv⟩; unfold k_insertEdge; rw [if_pos hv]
  rcases valid_cases W w with hw | ⟨b, hb, rfl⟩
  · left; refine ⟨?_, Or.inr hw⟩; unfold k_insertEdge; rw [valid_yes W ha, if_neg (by decide), if_pos hw]
  right
  refine ⟨a, b, ha, hb, rfl, rfl, ?_⟩
  have hNN : N * N ≤ 64 := by have := Nat.mul_le_mul hN hN; omega
  have hcl := cnt_le N (tb (gA s 0))
  by_cases q : tb (gA s 0) a b = true
  · left; refine ⟨q, ?_⟩
    unfold k_insertEdge
    rw [valid_yes W ha, valid_yes W hb, if_neg (by decide), if_neg (by decide), present_ok W ha hb, if_pos q, Option.bind_some, if_neg (by decide)]
  · right
    have q' : tb (gA s 0) a b = false := by simpa using q
    by_cases r : cnt N (tb (gA s 0)) = Mx
    · left; refine ⟨q', r, ?_⟩
      unfold k_insertEdge
      rw [valid_yes W ha, valid_yes W hb, if_neg (by decide), if_neg (by decide), present_ok W ha hb, if_neg q, Option.bind_some, if_pos rfl, if_pos (by rw [h5, h3, r])]
    · right
      refine ⟨q', by omega, ?_⟩
      obtain ⟨t, et, Ft, t2, Wt⟩ := snap_ok W
      have It : Inv N Mx t := h.keep (fun f hf => Ft.1 f (by simp)) (fun f hf => Ft.2.2.1 f (by simpa using hf)) Wt.2.2.2.2.1
      have t0 : gA t 0 = gA s 0 := Ft.2.2.1 0 (by simp)
      have t1 : gA t 1 = gA s 1 := Ft.2.2.1 1 (by simp)
      obtain ⟨u, eu, Fu, Iu, gE, gR⟩ := inv_add It ha hb (by rw [t0]; exact q') (by rw [t0]; omega)
      have u2 : gA u 2 = gA s 1 := by rw [Fu.2.2.1 2 (by simp), t2]
      have ec := countAdded_ok Iu.1.1 hN Iu.1.sub
      rw [u2] at ec
      obtain ⟨s', hs'⟩ : ∃ s', s' = Jvm.AM.sI (Jvm.AM.sI u 7 (Int32.ofNat (cnt N (fun x y => tb (gA u 1) x y && !tb (gA s 1) x y)))) 8 0 := ⟨_, rfl⟩
      have sA' : ∀ f, gA s' f = gA u f := fun f => by rw [hs', gA_sI, gA_sI]
      have sI' : ∀ f, f ≠ 7 → f ≠ 8 → gI s' f = gI u f := fun f h7 h8 => by rw [hs', gI_sI, if_neg h8, gI_sI, if_neg h7]
      refine ⟨s', ?_, Iu.keep (fun f hf => sI' f (by omega) (by omega)) (fun f _ => sA' f) (by rw [sA']; exact Iu.1.1.2.2.2.2.1), ?_, ?_, ?_, ?_, ?_, ?_, ?_⟩
      · unfold k_insertEdge
        rw [valid_yes W ha, valid_yes W hb, if_neg (by decide), if_neg (by decide), present_ok W ha hb, if_neg q, Option.bind_some, if_pos rfl, if_neg (by rw [h5, h3, ofNat_inj (by omega) (by omega)]; exact r), et, Option.bind_some, eu, Option.bind_some, ec, Option.bind_some, sA', hs']
      · intro x y
        unfold Ed at gE ⊢
        rw [sA', gE x y, t0]
      · rw [sA', hs', gI_sI, if_neg (by decide), gI_sI, if_pos rfl]
      · rw [hs', gI_sI, if_pos rfl]
      · rw [sI' 6 (by decide) (by decide), Fu.1 6 (by simp), Ft.1 6 (by simp)]
      · rw [sA', Fu.2.2.1 6 (by simp), Ft.2.2.1 6 (by simp)]
      · rw [sA', Fu.2.2.1 7 (by simp), Ft.2.2.1 7 (by simp)]
      · rw [sA', Fu.2.2.1 8 (by simp), Ft.2.2.1 8 (by simp)]
theorem reaches_w {N : Nat} {s : S} (W : Wf N s) {a b : Nat} (ha : a < N) (hb : b < N) : k_reaches (Int32.ofNat a) (Int32.ofNat b) s = some (if tb (gA s 1) a b = true then 1 else 0) := by
  obtain ⟨a1, hN', c0, c1, c2, c3, c4, c5⟩ := id W
  unfold k_reaches k_testBit
  rw [valid_yes W ha, valid_yes W hb, if_neg (by decide), if_neg (by decide), ix_G (by omega) (by omega), Option.bind_some]
  by_cases q : tb (gA s 1) a b = true
  · rw [if_neg (fun hh => by rw [show tb (gA s 1) a b = false from (test_bit _ (by omega)).mp hh] at q; cases q), if_pos q]; rfl
  · rw [if_pos ((test_bit _ (by omega)).mpr (by simpa [tb] using q)), if_neg q]; rfl
theorem reaches_ok {N Mx : Nat} {s : S} (h : Inv N Mx s) {a b : Nat} (ha : a < N) (hb : b < N) : k_reaches (Int32.ofNat a) (Int32.ofNat b) s = some (if tb (gA s 1) a b = true then 1 else 0) := reaches_w h.1.1 ha hb
/-- the number of derivations -/
def derc (s : S) (a b : Nat) (k : Nat) : Nat := (if tb (gA s 0) a b = true then 1 else 0) + (List.range k).countP fun y => tb (gA s 0) a y && tb (gA s 1) y b
theorem deriv_w {N : Nat} {s : S} (W : Wf N s) {a b : Nat} (ha : a < N) (hb : b < N) : k_derivationCount (Int32.ofNat a) (Int32.ofNat b) s = some (Int32.ofNat (derc s a b N)) := by
  obtain ⟨a1, hN', c0, c1, c2, c3, c4, c5⟩ := id W
  obtain ⟨w, u, e, rfl, g⟩ := run_for2 (fun n c k u => k_derivationCount_43 n (Int32.ofNat b) (G (gA s 0) a) c k u) (fun c u => some c) N (fun k c u => u = s ∧ c = Int32.ofNat (derc s a b k)) (by
    intro n k c u hk ⟨hu, hc⟩
    subst hu hc
    have hr : derc u a b (k + 1) = derc u a b k + if (tb (gA u 0) a k && tb (gA u 1) k b) = true then 1 else 0 := by
      unfold derc
      rw [List.range_succ, List.countP_append, List.countP_cons, List.countP_nil]; omega
    by_cases q : tb (gA u 0) a k = true
    · refine ⟨(if XT.ushr (G (gA u 1) k) (Int32.ofNat b) &&& 1 = 0 then Int32.ofNat (derc u a b k) else Int32.ofNat (derc u a b k) + 1), u, ?_, rfl, ?_⟩
      · show k_derivationCount_43 (n + 1) _ _ _ _ _ = k_derivationCount_43 n _ _ _ _ _
        rw [k_derivationCount_43, if_pos ((lt_n W (by omega)).mpr hk), if_neg (fun hh => by rw [show tb (gA u 0) a k = false from (test_bit _ (by omega)).mp hh] at q; cases q), ix_G (by omega) (by omega), Option.bind_some, ofNat_succ, ofNat_succ]
      · rw [hr]
        by_cases r : tb (gA u 1) k b = true
        · rw [if_neg (fun hh => by rw [show tb (gA u 1) k b = false from (test_bit _ (by omega)).mp hh] at r; cases r), ofNat_succ]
          simp [q, r]
        · rw [if_pos ((test_bit _ (by omega)).mpr (by simpa [tb] using r))]
          simp [r]
    · refine ⟨Int32.ofNat (derc u a b k), u, ?_, rfl, ?_⟩
      · show k_derivationCount_43 (n + 1) _ _ _ _ _ = k_derivationCount_43 n _ _ _ _ _
        rw [k_derivationCount_43, if_pos ((lt_n W (by omega)).mpr hk), if_pos ((test_bit _ (by omega)).mpr (by simpa [tb] using q)), ofNat_succ]
      · rw [hr]; simp [q]) (by
    intro n c u ⟨hu, _⟩
    subst hu
    show k_derivationCount_43 (n + 1) _ _ _ _ _ = _
    rw [k_derivationCount_43, if_neg (fun hh => absurd ((lt_n W (by omega)).mp hh) (by omega))]) BIG (Int32.ofNat (derc s a b 0)) s (by unfold BIG; omega) ⟨rfl, rfl⟩
  unfold k_derivationCount k_derivationCount_40 k_testBit
  rw [valid_yes W ha, valid_yes W hb, if_neg (by decide), if_neg (by decide), ix_G (by omega) (by omega), Option.bind_some]
  have e0 : (if (if XT.ushr (G (gA u 0) a) (Int32.ofNat b) &&& 1 = 0 then (0 : Int32) else 1) = 0 then (0 : Int32) else 1) = Int32.ofNat (derc u a b 0) := by
    unfold derc
    by_cases q : tb (gA u 0) a b = true
    · have : ¬ XT.ushr (G (gA u 0) a) (Int32.ofNat b) &&& 1 = 0 := fun hh => by rw [show tb (gA u 0) a b = false from (test_bit _ (by omega)).mp hh] at q; cases q
      simp [this, q]
    · have : XT.ushr (G (gA u 0) a) (Int32.ofNat b) &&& 1 = 0 := (test_bit _ (by omega)).mpr (by simpa [tb] using q)
      simp [this, q]
  rw [e0, ← g]
  exact e
theorem deriv_ok {N Mx : Nat} {s : S} (h : Inv N Mx s) {a b : Nat} (ha : a < N) (hb : b < N) : k_derivationCount (Int32.ofNat a) (Int32.ofNat b) s = some (Int32.ofNat (derc s a b N)) := deriv_w h.1.1 ha hb
/-- a new keeper -/
theorem init_ok {N Mx : Nat} (h2 : 2 ≤ N) (h8 : N ≤ 8) (m1 : 1 ≤ Mx) (m2 : Mx ≤ 256) : ∃ s, k_init (Int32.ofNat N) (Int32.ofNat Mx) = some s ∧ Inv N Mx s ∧ gA s 0 = rep 32 0 ∧ gA s 1 = rep 32 0 ∧ gI s 6 = 0 ∧ gI s 7 = 0 ∧ gI s 8 = 0 := by
  have e1 : ¬ Int32.ofNat N < 2 := fun hh => absurd (show N < 2 from (lt_lit (by omega)).mp hh) (by omega)
  have e2 : ¬ (32 : Int32) < Int32.ofNat N := fun hh => by rw [show (32 : Int32) = Int32.ofNat 32 from rfl, ofNat_lt (by omega) (by omega)] at hh; omega
  have e3 : ¬ Int32.ofNat Mx < 1 := fun hh => absurd (show Mx < 1 from (lt_lit (by omega)).mp hh) (by omega)
  have e4 : ¬ (256 : Int32) < Int32.ofNat Mx := fun hh => by rw [show (256 : Int32) = Int32.ofNat 256 from rfl, ofNat_lt (by omega) (by omega)] at hh; omega
  have z : ∀ x y, tb (rep 32 0) x y = false := fun x y => by
    unfold tb G
    rw [List.getD_eq_getElem?_getD, rep_get]
    by_cases q : x < 32
    · simp [q, bt]
    · simp [q, bt]
  have cz : cnt N (tb (rep 32 0)) = 0 := by
    unfold cnt
    exact List.countP_eq_zero.mpr fun p _ => by rw [z]; decide
  refine ⟨_, by unfold k_init k_init_95 k_init_104 k_init_116 k_init_129; rw [if_neg e1, if_neg e2, if_neg e3, if_neg e4], ?_, ?_, ?_, ?_, ?_, ?_⟩
  · refine ⟨⟨⟨?_, by omega, ?_, ?_, ?_, ?_, ?_, ?_⟩, ?_, ?_, ?_⟩, h8, ?_, m2, ?_, ?_, ⟨0, ?_, by omega⟩, ?_, ?_, ?_⟩
    all_goals simp [gI_sI, gI_sA, gA_sI, gA_sA, rep_length, z, cz]
    · intro x y hh; rw [z] at hh; cases hh
    · intro x w t
      have : False := t (fun _ _ => False) (fun a b e => by unfold Ed at e; simp [gA_sI, gA_sA, z] at e) (fun _ _ _ _ p => p)
      exact this
  all_goals simp [gI_sI, gI_sA, gA_sI, gA_sA]
/-- one bit of a word, by the arithmetic shift -/
theorem sar_bit (w : Int32) {k : Nat} (hk : k < 32) : (w >>> (Int32.ofNat k &&& 31)) &&& 1 = if bt w k then 1 else 0 := by
  have e31 : (31 : Int32).toBitVec = 31#32 := rfl
  have hk' : (Int32.ofNat k &&& 31) = Int32.ofNat k := by
    have : ∀ j : Fin 32, (Int32.ofNat j.val &&& 31) = Int32.ofNat j.val := by decide
    exact this ⟨k, hk⟩
  have hb : ∀ y, bt ((w >>> (Int32.ofNat k &&& 31)) &&& 1) y = (decide (y = 0) && bt w k) := by
    intro y
    rw [bt_and, hk']
    have h1 : bt 1 y = decide (y = 0) := by
      by_cases q : y = 0
      · subst q; decide
      · by_cases r : y < 32
        · have : ∀ j : Fin 32, j.val ≠ 0 → bt 1 j.val = false := by decide
          rw [this ⟨y, r⟩ q]; simp [q]
        · rw [bt_ge _ (by omega)]; simp [q]
    rw [h1]
    by_cases q : y = 0
    · subst q
      have hm : ∀ j : Fin 32, (Int32.ofNat j.val).toBitVec.smod 32#32 = BitVec.ofNat 32 j.val := by decide
      have hs : (w >>> Int32.ofNat k).toBitVec = w.toBitVec.sshiftRight k := by
        rw [Int32.toBitVec_shiftRight, show (Int32.ofNat k).toBitVec.smod 32 = BitVec.ofNat 32 k from hm ⟨k, hk⟩, BitVec.sshiftRight_eq']
        congr 1
        simp; omega
      unfold bt
      rw [hs, BitVec.getLsbD_sshiftRight]
      simp [hk]
    · simp [q]
  apply bt_ext
  intro y hy
  rw [hb]
  by_cases q : bt w k = true
  · rw [if_pos q, q]
    have : ∀ j : Fin 32, bt 1 j.val = decide (j.val = 0) := by decide
    rw [this ⟨y, hy⟩]; simp
  · rw [if_neg q, bt_zero]; simp [q]
theorem idx3 {i j : Nat} (hi : i < 3) (hj : j < 3) : Int32.ofNat i * 3 + Int32.ofNat j = Int32.ofNat (3 * i + j) := by
  have : ∀ (i j : Fin 3), Int32.ofNat i.val * 3 + Int32.ofNat j.val = Int32.ofNat (3 * i.val + j.val) := by decide
  exact this ⟨i, hi⟩ ⟨j, hj⟩
theorem hbit_ok (w : Int32) {i j : Nat} (hi : i < 3) (hj : j < 3) : h_bit w (Int32.ofNat i) (Int32.ofNat j) = if bt w (3 * i + j) then 1 else 0 := by
  unfold h_bit
  rw [idx3 hi hj, sar_bit _ (by omega)]
theorem hbit1 (w : Int32) {i j : Nat} (hi : i < 3) (hj : j < 3) : h_bit w (Int32.ofNat i) (Int32.ofNat j) = 1 ↔ bt w (3 * i + j) = true := by
  rw [hbit_ok w hi hj]
  by_cases q : bt w (3 * i + j) = true
  · simp [q]
  · simp [q]
theorem set3 {i j : Nat} (hi : i < 3) (hj : j < 3) (y : Nat) : bt ((1 : Int32) <<< ((Int32.ofNat i * 3 + Int32.ofNat j) &&& 31)) y = decide (y = 3 * i + j) := by
  rw [idx3 hi hj]
  have := shl_bit (b := 3 * i + j) (by omega) y
  exact this
/-- a word that holds a relation on three nodes -/
def Rp (w : Int32) (f : Nat → Nat → Bool) : Prop := (∀ i j, i < 3 → j < 3 → bt w (3 * i + j) = f i j) ∧ ∀ y, 9 ≤ y → bt w y = false
theorem step_in (v0 v1 acc : Int32) {i j : Nat} (hi : i < 3) (hj : j < 3) (k4 : Int32 → Int32 → Int32 → Int32 → Option Int32) (k12 : Int32 → Int32 → Int32 → Int32 → Int32 → Option Int32) : ∃ w, h_step_21 k4 k12 BIG v0 v1 acc (Int32.ofNat i) (Int32.ofNat j) 0 = k12 v0 v1 w (Int32.ofNat i) (Int32.ofNat (j + 1)) ∧ ∀ y, bt w y = (bt acc y || (decide (y = 3 * i + j) && (List.range 3).any fun k => bt v0 (3 * i + k) && bt v1 (3 * k + j))) := by
  obtain ⟨w, u, e, g⟩ := run_for2 (fun n c k (_ : S) => h_step_21 k4 k12 n v0 v1 c (Int32.ofNat i) (Int32.ofNat j) k) (fun c _ => k12 v0 v1 c (Int32.ofNat i) (Int32.ofNat (j + 1))) 3 (fun m c _ => ∀ y, bt c y = (bt acc y || (decide (y = 3 * i + j) && (List.range m).any fun k => bt v0 (3 * i + k) && bt v1 (3 * k + j)))) (by
    intro n k c u hk g
    refine ⟨(if (h_bit v0 (Int32.ofNat i) (Int32.ofNat k)) = (1 : Int32) then if (h_bit v1 (Int32.ofNat k) (Int32.ofNat j)) = (1 : Int32) then c ||| ((1 : Int32) <<< (((Int32.ofNat i * (3 : Int32)) + Int32.ofNat j) &&& 31)) else c else c), u, ?_, ?_⟩
    · show h_step_21 k4 k12 (n + 1) _ _ _ _ _ _ = h_step_21 k4 k12 n _ _ _ _ _ _
      rw [h_step_21, if_pos ((lt_lit (by omega)).mpr hk), ofNat_succ]
    · intro y
      rw [List.range_succ, List.any_append]
      by_cases a : bt v0 (3 * i + k) = true
      · rw [if_pos ((hbit1 v0 hi hk).mpr a)]
        by_cases b : bt v1 (3 * k + j) = true
        · rw [if_pos ((hbit1 v1 hk hj).mpr b), bt_or, set3 hi hj, g y]
          simp [a, b]
          cases bt acc y <;> by_cases q : y = 3 * i + j <;> simp [q]
        · rw [if_neg (fun e => b ((hbit1 v1 hk hj).mp e)), g y]
          simp [a, b]
      · rw [if_neg (fun e => a ((hbit1 v0 hi hk).mp e)), g y]
        simp [a]) (by
    intro n c u _
    show h_step_21 k4 k12 (n + 1) _ _ _ _ _ _ = _
    rw [h_step_21, if_neg (fun hh => absurd (show 3 < 3 from (lt_lit (by omega)).mp hh) (by omega)), ofNat_succ]) BIG acc s0 (by unfold BIG; omega) (by intro y; simp)
  exact ⟨w, e, g⟩
def cell (v0 v1 : Int32) (i j : Nat) : Bool := (List.range 3).any fun k => bt v0 (3 * i + k) && bt v1 (3 * k + j)
theorem step_row (v0 v1 acc : Int32) {i : Nat} (hi : i < 3) (k4 : Int32 → Int32 → Int32 → Int32 → Option Int32) : ∃ w, h_step_12 k4 BIG v0 v1 acc (Int32.ofNat i) 0 = k4 v0 v1 w (Int32.ofNat (i + 1)) ∧ ∀ y, bt w y = (bt acc y || (List.range 3).any fun j => decide (y = 3 * i + j) && cell v0 v1 i j) := by
  obtain ⟨w, u, e, g⟩ := run_for2 (fun n c k (_ : S) => h_step_12 k4 n v0 v1 c (Int32.ofNat i) k) (fun c _ => k4 v0 v1 c (Int32.ofNat (i + 1))) 3 (fun m c _ => ∀ y, bt c y = (bt acc y || (List.range m).any fun j => decide (y = 3 * i + j) && cell v0 v1 i j)) (by
    intro n j c u hj g
    obtain ⟨w, e, h⟩ := step_in v0 v1 c hi hj k4 (fun v0 v1 v2 v3 v4 => h_step_12 k4 n v0 v1 v2 v3 v4)
    refine ⟨w, u, ?_, ?_⟩
    · show h_step_12 k4 (n + 1) _ _ _ _ _ = h_step_12 k4 n _ _ _ _ _
      rw [h_step_12, if_pos ((lt_lit (by omega)).mpr hj), e]
    · intro y
      rw [h y, g y, List.range_succ (n := j), List.any_append]
      simp only [List.any_cons, List.any_nil, Bool.or_false, Bool.or_assoc]; rfl) (by
    intro n c u _
    show h_step_12 k4 (n + 1) _ _ _ _ _ = _
    rw [h_step_12, if_neg (fun hh => absurd (show 3 < 3 from (lt_lit (by omega)).mp hh) (by omega)), ofNat_succ]) BIG acc s0 (by unfold BIG; omega) (by intro y; simp)
  exact ⟨w, e, g⟩
theorem step_ok (v0 v1 : Int32) : ∃ w, h_step v0 v1 = some w ∧ Rp w (cell v0 v1) := by
  obtain ⟨w, u, e, g⟩ := run_for2 (fun n c k (_ : S) => h_step_4 n v0 v1 c k) (fun c _ => some c) 3 (fun m c _ => ∀ y, bt c y = ((List.range m).any fun i => (List.range 3).any fun j => decide (y = 3 * i + j) && cell v0 v1 i j)) (by
    intro n i c u hi g
    obtain ⟨w, e, h⟩ := step_row v0 v1 c hi (fun v0 v1 v2 v3 => h_step_4 n v0 v1 v2 v3)
    refine ⟨w, u, ?_, ?_⟩
    · show h_step_4 (n + 1) _ _ _ _ = h_step_4 n _ _ _ _
      rw [h_step_4, if_pos ((lt_lit (by omega)).mpr hi), e]
    · intro y
      rw [h y, g y, List.range_succ (n := i), List.any_append]
      simp) (by
    intro n c u _
    show h_step_4 (n + 1) _ _ _ _ = _
    rw [h_step_4, if_neg (fun hh => absurd (show 3 < 3 from (lt_lit (by omega)).mp hh) (by omega))]) BIG 0 s0 (by unfold BIG; omega) (by intro y; simp [bt_zero])
  refine ⟨w, e, ?_, ?_⟩
  · intro i j hi hj
    rw [g]
    rw [Bool.eq_iff_iff, List.any_eq_true]
    constructor
    · rintro ⟨i', hi', h⟩
      rw [List.any_eq_true] at h
      obtain ⟨j', hj', h⟩ := h
      rw [List.mem_range] at hi' hj'
      rw [Bool.and_eq_true, decide_eq_true_eq] at h
      have e1 : i' = i := by omega
      have e2 : j' = j := by omega
      rw [← e1, ← e2]; exact h.2
    · intro h
      refine ⟨i, List.mem_range.mpr hi, ?_⟩
      rw [List.any_eq_true]
      exact ⟨j, List.mem_range.mpr hj, by simp [h]⟩
  · intro y hy
    rw [g]
    rw [Bool.eq_false_iff]
    intro h
    rw [List.any_eq_true] at h
    obtain ⟨i', hi', h⟩ := h
    rw [List.any_eq_true] at h
    obtain ⟨j', hj', h⟩ := h
    rw [List.mem_range] at hi' hj'
    rw [Bool.and_eq_true, decide_eq_true_eq] at h
    omega
/-- paths of at most r + 1 edges -/
def pth (f : Nat → Nat → Bool) : Nat → Nat → Nat → Bool
  | 0 => f
  | r + 1 => fun i j => f i j || (List.range 3).any fun k => f i k && pth f r k j
theorem cell_rp {v0 v1 : Int32} {f g : Nat → Nat → Bool} (h0 : Rp v0 f) (h1 : Rp v1 g) {i j : Nat} (hi : i < 3) (hj : j < 3) : cell v0 v1 i j = (List.range 3).any fun k => f i k && g k j := by
  unfold cell
  rw [Bool.eq_iff_iff, List.any_eq_true, List.any_eq_true]
  constructor
  · rintro ⟨k, hk, h⟩
    have := List.mem_range.mp hk
    exact ⟨k, hk, by rw [← h0.1 i k hi this, ← h1.1 k j this hj]; exact h⟩
  · rintro ⟨k, hk, h⟩
    have := List.mem_range.mp hk
    exact ⟨k, hk, by rw [h0.1 i k hi this, h1.1 k j this hj]; exact h⟩
theorem closed9 : ∀ a b c d e f g h i : Bool, 
    let F : Nat → Nat → Bool := fun x y => if x = 0 then (if y = 0 then a else if y = 1 then b else c) else if x = 1 then (if y = 0 then d else if y = 1 then e else f) else (if y = 0 then g else if y = 1 then h else i)
    ∀ x : Fin 3, ∀ y : Fin 3, pth F 4 x.val y.val = pth F 3 x.val y.val := by decide +kernel
theorem pth_congr {f g : Nat → Nat → Bool} (h : ∀ i j, i < 3 → j < 3 → f i j = g i j) : ∀ r i j, i < 3 → j < 3 → pth f r i j = pth g r i j
  | 0, i, j, hi, hj => h i j hi hj
  | r + 1, i, j, hi, hj => by
    simp only [pth]
    rw [h i j hi hj]
    congr 1
    rw [Bool.eq_iff_iff, List.any_eq_true, List.any_eq_true]
    constructor
    · rintro ⟨k, hk, q⟩
      have := List.mem_range.mp hk
      exact ⟨k, hk, by rw [← h i k hi this, ← pth_congr h r k j this hj]; exact q⟩
    · rintro ⟨k, hk, q⟩
      have := List.mem_range.mp hk
      exact ⟨k, hk, by rw [h i k hi this, pth_congr h r k j this hj]; exact q⟩
theorem pth_stop (f : Nat → Nat → Bool) {i j : Nat} (hi : i < 3) (hj : j < 3) : pth f 4 i j = pth f 3 i j := by
  have c := closed9 (f 0 0) (f 0 1) (f 0 2) (f 1 0) (f 1 1) (f 1 2) (f 2 0) (f 2 1) (f 2 2)
  dsimp only at c
  have e : ∀ i j, i < 3 → j < 3 → f i j = (if i = 0 then (if j = 0 then f 0 0 else if j = 1 then f 0 1 else f 0 2) else if i = 1 then (if j = 0 then f 1 0 else if j = 1 then f 1 1 else f 1 2) else (if j = 0 then f 2 0 else if j = 1 then f 2 1 else f 2 2)) := fun i j hi hj => by
    have hi' : i = 0 ∨ i = 1 ∨ i = 2 := by omega
    have hj' : j = 0 ∨ j = 1 ∨ j = 2 := by omega
    rcases hi' with rfl | rfl | rfl <;> rcases hj' with rfl | rfl | rfl <;> simp
  rw [pth_congr e 4 i j hi hj, pth_congr e 3 i j hi hj]
  exact c ⟨i, hi⟩ ⟨j, hj⟩
theorem pth_tc {s : S} (sE : Sub 3 (gA s 0)) (i j : Nat) (hi : i < 3) (hj : j < 3) : pth (tb (gA s 0)) 3 i j = true ↔ TC (Ed s) i j := by
  constructor
  · have : ∀ r i j, pth (tb (gA s 0)) r i j = true → TC (Ed s) i j := by
      intro r
      induction r with
      | zero => intro i j h; exact TC.base h
      | succ r ih =>
        intro i j h
        simp only [pth, Bool.or_eq_true, List.any_eq_true] at h
        rcases h with h | ⟨k, _, h⟩
        · exact TC.base h
        · rw [Bool.and_eq_true] at h
          exact TC.step h.1 (ih k j h.2)
    exact this 3 i j
  · intro t
    have := t (fun x z => x < 3 ∧ z < 3 ∧ pth (tb (gA s 0)) 3 x z = true) (fun x y e => ⟨(sE x y e).1, (sE x y e).2, by
      unfold Ed at e; simp [pth, e]⟩) (fun x y z e p => ⟨(sE x y e).1, p.2.1, by
      rw [← pth_stop _ (sE x y e).1 p.2.1]
      unfold Ed at e
      simp only [pth, Bool.or_eq_true, List.any_eq_true]
      refine Or.inr ⟨y, List.mem_range.mpr (sE x y e).2, ?_⟩
      rw [Bool.and_eq_true]
      exact ⟨e, p.2.2⟩⟩)
    exact this.2.2
theorem pick01 (b : Bool) : (if (if b then (1 : Int32) else 0) = 1 then (1 : Int32) else 0) = (if b = true then 1 else 0) := by cases b <;> decide
/-- the closing rounds -/
theorem rounds {g : Int32} {f : Nat → Nat → Bool} (hg : Rp g f) (v3 v4 : Int32) (s : S) : ∃ w, law_95 BIG g v3 v4 g 0 s = law_117 g v3 v4 w s ∧ Rp w (pth f 3) := by
  obtain ⟨w, u, e, rfl, h⟩ := run_for2 (fun n c k u => law_95 n g v3 v4 c k u) (fun c u => law_117 g v3 v4 c u) 3 (fun m c u => u = s ∧ Rp c (pth f m)) (by
    intro n k c u hk ⟨hu, hc⟩
    subst hu
    obtain ⟨w, e, hw⟩ := step_ok g c
    refine ⟨g ||| w, u, ?_, rfl, ?_, ?_⟩
    · show law_95 (n + 1) _ _ _ _ _ _ = law_95 n _ _ _ _ _ _
      rw [law_95, if_pos ((lt_lit (by omega)).mpr hk), e, Option.bind_some, ofNat_succ]
    · intro i j hi hj
      rw [bt_or, hg.1 i j hi hj, hw.1 i j hi hj, cell_rp hg hc hi hj]; rfl
    · intro y hy
      rw [bt_or, hg.2 y hy, hw.2 y hy]; rfl) (by
    intro n c u _
    show law_95 (n + 1) _ _ _ _ _ _ = _
    rw [law_95, if_neg (fun hh => absurd (show 3 < 3 from (lt_lit (by omega)).mp hh) (by omega))]) BIG g s (by unfold BIG; omega) ⟨rfl, hg⟩
  exact ⟨w, e, h⟩
theorem deriv_sum {s : S} {g c : Int32} (hg : Rp g (tb (gA s 0))) (hc : Rp c (tb (gA s 1))) {i j : Nat} (hi : i < 3) (hj : j < 3) (k123 : Int32 → Int32 → Int32 → Int32 → Int32 → Int32 → S → Option (Int32 × S)) (k132 : Int32 → Int32 → Int32 → Int32 → Int32 → Int32 → Int32 → S → Option (Int32 × S)) (v3 v4 v6 : Int32) : law_193 k123 k132 BIG g v3 v4 c v6 (Int32.ofNat i) (Int32.ofNat j) (h_bit g (Int32.ofNat i) (Int32.ofNat j)) 0 s = law_228 k123 k132 g v3 v4 c v6 (Int32.ofNat i) (Int32.ofNat j) (Int32.ofNat (derc s i j 3)) s := by
  obtain ⟨w, u, e, rfl, h⟩ := run_for2 (fun n a k u => law_193 k123 k132 n g v3 v4 c v6 (Int32.ofNat i) (Int32.ofNat j) a k u) (fun a u => law_228 k123 k132 g v3 v4 c v6 (Int32.ofNat i) (Int32.ofNat j) a u) 3 (fun m a u => u = s ∧ a = Int32.ofNat (derc s i j m)) (by
    intro n k a u hk ⟨hu, ha⟩
    subst hu ha
    refine ⟨Int32.ofNat (derc u i j (k + 1)), u, ?_, rfl, rfl⟩
    show law_193 k123 k132 (n + 1) _ _ _ _ _ _ _ _ _ _ = law_193 k123 k132 n _ _ _ _ _ _ _ _ _ _
    rw [law_193, if_pos ((lt_lit (by omega)).mpr hk), ofNat_succ, hbit_ok g hi hk, hbit_ok c hk hj, hg.1 i k hi hk, hc.1 k j hk hj]
    have hr : derc u i j (k + 1) = derc u i j k + if (tb (gA u 0) i k && tb (gA u 1) k j) = true then 1 else 0 := by
      unfold derc
      rw [List.range_succ, List.countP_append, List.countP_cons, List.countP_nil]; omega
    rw [hr, ← ofNat_add']
    congr 1
    cases tb (gA u 0) i k <;> cases tb (gA u 1) k j <;> simp) (by
    intro n a u _
    show law_193 k123 k132 (n + 1) _ _ _ _ _ _ _ _ _ _ = _
    rw [law_193, if_neg (fun hh => absurd (show 3 < 3 from (lt_lit (by omega)).mp hh) (by omega))]) BIG (h_bit g (Int32.ofNat i) (Int32.ofNat j)) s (by unfold BIG; omega) ⟨rfl, by
      rw [hbit_ok g hi hj, hg.1 i j hi hj]
      unfold derc
      cases tb (gA s 0) i j <;> simp⟩
  rw [← h]; exact e
theorem check_ok {s : S} (h : Inv 3 9 s) {g c : Int32} (hg : Rp g (tb (gA s 0))) (hc : Rp c (tb (gA s 1))) (v3 v4 : Int32) : law_117 g v3 v4 c s = law_255 v3 v4 (Int32.ofNat (cnt 3 (tb (gA s 1)))) s := by
  have row : ∀ (K : Int32 → Int32 → Int32 → Int32 → Int32 → Int32 → S → Option (Int32 × S)) a n0, a < 3 → law_132 K BIG g v3 v4 c (Int32.ofNat n0) (Int32.ofNat a) 0 s = K g v3 v4 c (Int32.ofNat (n0 + (List.range 3).countP (tb (gA s 1) a))) (Int32.ofNat (a + 1)) s := fun K a n0 ha => by
    obtain ⟨w, u, e, rfl, hw⟩ := run_for2 (fun n x k u => law_132 K n g v3 v4 c x (Int32.ofNat a) k u) (fun x u => K g v3 v4 c x (Int32.ofNat (a + 1)) u) 3 (fun m x u => u = s ∧ x = Int32.ofNat (n0 + (List.range m).countP (tb (gA s 1) a))) (by
      intro n k x u hk ⟨hu, hx⟩
      subst hu hx
      refine ⟨Int32.ofNat (n0 + (List.range (k + 1)).countP (tb (gA u 1) a)), u, ?_, rfl, rfl⟩
      show law_132 K (n + 1) _ _ _ _ _ _ _ _ = law_132 K n _ _ _ _ _ _ _ _
      rw [law_132, if_pos ((lt_lit (by omega)).mpr hk), reaches_ok h ha hk, Option.bind_some]
      unfold law_175
      rw [hbit_ok c ha hk, hc.1 a k ha hk, pick01, if_pos rfl, deriv_sum hg hc ha hk]
      unfold law_228
      rw [deriv_ok h ha hk, Option.bind_some, if_pos rfl, ofNat_succ]
      have : Int32.ofNat (n0 + (List.range k).countP (tb (gA u 1) a)) + (if tb (gA u 1) a k = true then 1 else 0) = Int32.ofNat (n0 + (List.range (k + 1)).countP (tb (gA u 1) a)) := by
        rw [List.range_succ, List.countP_append, List.countP_cons, List.countP_nil]
        cases tb (gA u 1) a k
        · simp
        · simp only [if_true]
          rw [ofNat_succ]
          congr 1
      rw [this]) (by
      intro n x u _
      show law_132 K (n + 1) _ _ _ _ _ _ _ _ = _
      rw [law_132, if_neg (fun hh => absurd (show 3 < 3 from (lt_lit (by omega)).mp hh) (by omega)), ofNat_succ]) BIG (Int32.ofNat n0) s (by unfold BIG; omega) ⟨rfl, rfl⟩
    rw [← hw]; exact e
  obtain ⟨w, u, e, rfl, hw⟩ := run_for2 (fun n x k u => law_123 n g v3 v4 c x k u) (fun x u => law_255 v3 v4 x u) 3 (fun m x u => u = s ∧ x = Int32.ofNat (sumTo (fun a => (List.range 3).countP (tb (gA s 1) a)) m)) (by
    intro n k x u hk ⟨hu, hx⟩
    subst hu hx
    refine ⟨_, u, ?_, rfl, rfl⟩
    show law_123 (n + 1) _ _ _ _ _ _ _ = law_123 n _ _ _ _ _ _ _
    rw [law_123, if_pos ((lt_lit (by omega)).mpr hk), row _ k _ hk]; rfl) (by
    intro n x u _
    show law_123 (n + 1) _ _ _ _ _ _ _ = _
    rw [law_123, if_neg (fun hh => absurd (show 3 < 3 from (lt_lit (by omega)).mp hh) (by omega))]) BIG 0 s (by unfold BIG; omega) ⟨rfl, rfl⟩
  unfold law_117
  refine e.trans ?_
  rw [hw, cnt_rows]
/-- the edges that are in, up to row i, column j -/
def upto (f : Nat → Nat → Bool) (i j : Nat) (x y : Nat) : Bool := f x y && (decide (x < i) || (decide (x = i) && decide (y < j)))
theorem law_true (v0 : Int32) : ∃ t, law v0 = some (1, t) := by
  obtain ⟨s, es, Is, g0, g1, _⟩ := init_ok (N := 3) (Mx := 9) (by omega) (by omega) (by omega) (by omega)
  obtain ⟨g, hg⟩ : ∃ g, g = v0 &&& 511 := ⟨_, rfl⟩
  obtain ⟨f, hf⟩ : ∃ f : Nat → Nat → Bool, f = fun i j => decide (i < 3) && decide (j < 3) && bt g (3 * i + j) := ⟨_, rfl⟩
  have hi9 : ∀ y, 9 ≤ y → bt g y = false := fun y hy => by
    rw [hg, bt_and]
    by_cases q : y < 32
    · have : ∀ j : Fin 32, 9 ≤ j.val → bt 511 j.val = false := by decide
      rw [this ⟨y, q⟩ hy]; simp
    · rw [bt_ge _ (by omega)]; simp
  have Rg : Rp g f := ⟨fun i j hi hj => by rw [hf]; simp [hi, hj], hi9⟩
  have sf : ∀ x y, f x y = true → x < 3 ∧ y < 3 := fun x y h => by
    rw [hf] at h; simp at h; exact ⟨h.1.1, h.1.2⟩
  unfold law
  rw [show (3 : Int32) = Int32.ofNat 3 from rfl, show (9 : Int32) = Int32.ofNat 9 from rfl, es, Option.bind_some, ← hg]
  -- the insertions
  have ins : ∀ (K : Int32 → Int32 → Int32 → Int32 → S → Option (Int32 × S)) i u, i < 3 → Inv 3 9 u → (∀ x y, tb (gA u 0) x y = upto f i 0 x y) → ∃ u', law_34 K BIG g (Int32.ofNat (cnt 3 (tb (gA u 1)))) (Int32.ofNat (cnt 3 (tb (gA u 0)))) (Int32.ofNat i) 0 u = K g (Int32.ofNat (cnt 3 (tb (gA u' 1)))) (Int32.ofNat (cnt 3 (tb (gA u' 0)))) (Int32.ofNat (i + 1)) u' ∧ Inv 3 9 u' ∧ ∀ x y, tb (gA u' 0) x y = upto f i 3 x y := fun K i u hi I0 E0 => by
    obtain ⟨c, u', e, I, E, hc⟩ := run_for2 (fun n (c : Int32 × Int32) k u => law_34 K n g c.1 c.2 (Int32.ofNat i) k u) (fun c u => K g c.1 c.2 (Int32.ofNat (i + 1)) u) 3 (fun m c u => Inv 3 9 u ∧ (∀ x y, tb (gA u 0) x y = upto f i m x y) ∧ c = (Int32.ofNat (cnt 3 (tb (gA u 1))), Int32.ofNat (cnt 3 (tb (gA u 0))))) (by
      intro n j c u hj ⟨I, E, hc⟩
      subst hc
      have hnot : tb (gA u 0) i j = false := by rw [E]; unfold upto; simp
      by_cases q : f i j = true
      · have hb : h_bit g (Int32.ofNat i) (Int32.ofNat j) = 1 := by rw [hbit1 g hi hj, Rg.1 i j hi hj]; exact q
        have room : cnt 3 (tb (gA u 0)) < 9 := by
          have := cnt_add (N := 3) (f := fun x y => tb (gA u 0) x y || (decide (x = i) && decide (y = j))) (g := tb (gA u 0)) hi hj (fun x y h => by
            by_cases a : x = i
            · have : ¬ y = j := fun b => h ⟨a, b⟩
              simp [this]
            · simp [a]) (by simp) hnot
          have := cnt_le 3 (fun x y => tb (gA u 0) x y || (decide (x = i) && decide (y = j)))
          omega
        rcases insert_ok I (Int32.ofNat i) (Int32.ofNat j) with ⟨_, hv⟩ | ⟨a, b, ha, hb', ea, eb, hh⟩
        · rcases hv with hv | hv
          · rw [valid_yes I.1.1 hi] at hv; cases hv
          · rw [valid_yes I.1.1 hj] at hv; cases hv
        have e1 : i = a := (ofNat_inj (by omega) (by omega)).mp ea
        have e2 : j = b := (ofNat_inj (by omega) (by omega)).mp eb
        subst e1 e2
        rcases hh with ⟨t, _⟩ | ⟨_, t, _⟩ | ⟨_, _, u', e, I', gE, _⟩
        · rw [hnot] at t; cases t
        · omega
        have view : cnt 3 (tb (gA u' 1)) = cnt 3 (tb (gA u 1)) + cnt 3 (fun x y => tb (gA u' 1) x y && !tb (gA u 1) x y) := by
          have mono : ∀ x y, tb (gA u 1) x y = true → tb (gA u' 1) x y = true := fun x y h => by
            rw [I'.1.2.2.2 x y]
            exact TC.mono (fun x y e => (gE x y).mpr (Or.inl e)) ((I.1.2.2.2 x y).mp h)
          unfold cnt
          have : ∀ l : List (Nat × Nat), l.countP (fun p => tb (gA u' 1) p.1 p.2) = l.countP (fun p => tb (gA u 1) p.1 p.2) + l.countP (fun p => tb (gA u' 1) p.1 p.2 && !tb (gA u 1) p.1 p.2) := fun l => by
            induction l with
            | nil => rfl
            | cons p l ih =>
              simp only [List.countP_cons]
              have := mono p.1 p.2
              cases h1 : tb (gA u 1) p.1 p.2 <;> cases h2 : tb (gA u' 1) p.1 p.2 <;> simp_all <;> omega
          exact this _
        have edge : cnt 3 (tb (gA u' 0)) = cnt 3 (tb (gA u 0)) + 1 := by
          refine cnt_add hi hj (fun x y h => ?_) ((gE i j).mpr (Or.inr ⟨rfl, rfl⟩)) hnot
          rw [Bool.eq_iff_iff]
          have := gE x y
          unfold Ed at this
          rw [this]
          exact ⟨fun z => z.elim id (fun z => absurd z h), Or.inl⟩
        have cl := cnt_le 3 (fun x y => tb (gA u' 1) x y && !tb (gA u 1) x y)
        refine ⟨(Int32.ofNat (cnt 3 (tb (gA u' 1))), Int32.ofNat (cnt 3 (tb (gA u' 0)))), u', ?_, I', ?_, rfl⟩
        · show law_34 K (n + 1) _ _ _ _ _ _ = law_34 K n _ _ _ _ _ _
          rw [law_34, if_pos ((lt_lit (by omega)).mpr hj), if_pos hb, e, Option.bind_some]
          dsimp only
          rw [if_neg (ofNat_nonneg (by omega)), ofNat_add', ← view, ofNat_succ, ← edge, ofNat_succ]
        · intro x y
          rw [Bool.eq_iff_iff]
          have := gE x y
          unfold Ed at this
          rw [this, E]
          unfold upto
          by_cases a : x = i
          · subst a
            by_cases b : y = j
            · subst b; simp [q]
            · have : (y < j + 1) ↔ (y < j) := by omega
              simp [b, this]
          · simp [a]
      · have hb : ¬ h_bit g (Int32.ofNat i) (Int32.ofNat j) = 1 := by rw [hbit1 g hi hj, Rg.1 i j hi hj]; exact q
        refine ⟨(Int32.ofNat (cnt 3 (tb (gA u 1))), Int32.ofNat (cnt 3 (tb (gA u 0)))), u, ?_, I, ?_, rfl⟩
        · show law_34 K (n + 1) _ _ _ _ _ _ = law_34 K n _ _ _ _ _ _
          rw [law_34, if_pos ((lt_lit (by omega)).mpr hj), if_neg hb, ofNat_succ]
        · intro x y
          rw [E]
          unfold upto
          by_cases a : x = i
          · subst a
            by_cases b : y = j
            · subst b; simp [q]
            · have : (y < j + 1) ↔ (y < j) := by omega
              simp [this]
          · simp [a]) (by
      intro n c u _
      show law_34 K (n + 1) _ _ _ _ _ _ = _
      rw [law_34, if_neg (fun hh => absurd (show 3 < 3 from (lt_lit (by omega)).mp hh) (by omega)), ofNat_succ]) BIG (Int32.ofNat (cnt 3 (tb (gA u 1))), Int32.ofNat (cnt 3 (tb (gA u 0)))) u (by unfold BIG; omega) ⟨I0, E0, rfl⟩
    subst hc
    exact ⟨u', e, I, E⟩
  have z0 : cnt 3 (tb (gA s 1)) = 0 := by rw [g1]; decide
  have z1 : cnt 3 (tb (gA s 0)) = 0 := by rw [g0]; decide
  have zt : ∀ x y, tb (rep 32 0) x y = false := fun x y => by
    unfold tb G
    rw [List.getD_eq_getElem?_getD, rep_get]
    by_cases q : x < 32
    · simp [q, bt]
    · simp [q, bt]
  obtain ⟨c, u, e, I, E, hc⟩ := run_for2 (fun n (c : Int32 × Int32) k u => law_25 n g c.1 c.2 k u) (fun c u => law_89 g c.1 c.2 u) 3 (fun m c u => Inv 3 9 u ∧ (∀ x y, tb (gA u 0) x y = upto f m 0 x y) ∧ c = (Int32.ofNat (cnt 3 (tb (gA u 1))), Int32.ofNat (cnt 3 (tb (gA u 0))))) (by
    intro n i c u hi ⟨I, E, hc⟩
    subst hc
    obtain ⟨u', e, I', E'⟩ := ins (fun v1 v3 v4 v5 t0 => law_25 n v1 v3 v4 v5 t0) i u hi I E
    refine ⟨(Int32.ofNat (cnt 3 (tb (gA u' 1))), Int32.ofNat (cnt 3 (tb (gA u' 0)))), u', ?_, I', ?_, rfl⟩
    · show law_25 (n + 1) _ _ _ _ _ = law_25 n _ _ _ _ _
      rw [law_25, if_pos ((lt_lit (by omega)).mpr hi), e]
    · intro x y
      rw [E', Bool.eq_iff_iff]
      unfold upto
      simp only [Bool.and_eq_true, Bool.or_eq_true, decide_eq_true_eq]
      constructor
      · rintro ⟨h, h'⟩; exact ⟨h, by omega⟩
      · rintro ⟨h, h'⟩
        have := sf x y h
        exact ⟨h, by omega⟩) (by
    intro n c u _
    show law_25 (n + 1) _ _ _ _ _ = _
    rw [law_25, if_neg (fun hh => absurd (show 3 < 3 from (lt_lit (by omega)).mp hh) (by omega))]) BIG (0, 0) s (by unfold BIG; omega) ⟨Is, fun x y => by rw [g0, zt]; unfold upto; simp, by rw [z0, z1]; rfl⟩
  have Ef : tb (gA u 0) = f := by
    funext x y
    rw [E, Bool.eq_iff_iff]
    unfold upto
    simp only [Bool.and_eq_true, Bool.or_eq_true, decide_eq_true_eq]
    constructor
    · exact fun h => h.1
    · intro h; have := sf x y h; exact ⟨h, by omega⟩
  refine ⟨u, ?_⟩
  refine Eq.trans e ?_
  subst hc
  unfold law_89
  rw [← Ef] at Rg
  obtain ⟨w, ew, Rw⟩ := rounds Rg (Int32.ofNat (cnt 3 (tb (gA u 1)))) (Int32.ofNat (cnt 3 (tb (gA u 0)))) u
  have Rw' : Rp w (tb (gA u 1)) := ⟨fun i j hi hj => by
    rw [Rw.1 i j hi hj, Bool.eq_iff_iff, pth_tc I.1.2.2.1 i j hi hj, I.1.2.2.2 i j], Rw.2⟩
  dsimp only
  rw [ew, check_ok I Rg Rw']
  unfold law_255 k_edgeCount
  rw [if_pos rfl, viewSize_ok I.1.1 I.2.1 I.1.sub, Option.bind_some, if_pos rfl, I.2.2.2.2.1, if_pos rfl]
set_option maxRecDepth 65536 in
set_option maxHeartbeats 40000000 in
theorem comes_1 {Post : Tables → Env → Array Value → State → Outcome → State → Prop} (hpost : ∀ tb e args s v u, (limb_1_1.after args s (.returned v) u = true ∧ limb_1_2.after args s (.returned v) u = true ∧ True) → FrameEnd s (.returned v) u (Jvm.fieldLocs frame_1_writes args s ++ Jvm.arrayLocs frame_1_arrays args s ++ Jvm.staticLocs frame_1_statics s) 32 640 → Post tb e args s (.returned v) u) :
    ArmFor flags0 classFile x code maxLocals ret World_1 tables_1 room_1 Calls_1 rest_1 Pre_1 Post := by
  intro l hfl _ _ p e ha hc hk s m args below hf hA hF happ hP
  obtain ⟨hcalls, hrest, hpre⟩ := hP
  obtain ⟨-, -, -, hnamed, -, -, -, hat⟩ := (Spec.applies_iff hf).mp happ
  obtain ⟨hg, hn⟩ := and_e (Cond.before_iff.mp (show (Jvm.Cond.and given_1 narrow_1).before args s = true from hpre))
  obtain ⟨g0, b0⟩ := and_e hg
  have a0 := b0
  obtain ⟨w0, rfl⟩ : ∃ w0 : Value, args = #[w0] := by
    have hs : args.size = 1 := by simpa [Cond.value, given_1] using g0
    obtain ⟨L⟩ := args
    match L, hs with
    | [w0], _ => exact ⟨w0, rfl⟩
  have hw := fun d (hd : d ∈ tables_1) => atoms_spec (ws := Jvm.Cond.code x code maxLocals ret :: tables_1) hat d (List.mem_cons_of_mem _ hd)
  have hfit : Fit s := fun {y c} hc i hi => by
    obtain ⟨ha, rfl⟩ := Array.getElem?_eq_some_iff.mp hc
    have q := List.all_eq_true.mp ((Array.all_eq_true_iff_forall_mem.mp hF) _ (Array.getElem_mem ha)) i (List.mem_range.mpr hi)
    simpa [Array.getElem?_eq_getElem hi] using q
  obtain ⟨i0, ei0⟩ := is_v a0
  obtain rfl : w0 = (.int i0) := Option.some.inj ei0
  obtain ⟨t, ht⟩ := law_true i0
  have C : Call PP m22 [.int i0] (none, []) (some (.int ((1 : Int32), t).1), (none, [(9, ((1 : Int32), t).2)])) := call_of_go pl_1 rfl (fun h => by cases h) (law_ok i0 _ ht)
  obtain ⟨n, o, h1, h2, h3, _, L, rfl, ⟨rfl, N, _⟩, hq⟩ := C l s _ tables_1 0 s.heap.size s.heap.size s.heap hw (facts1 hw) (Nat.le_refl _) (repW_none ..) (Nat.zero_le _) (fun _ => ⟨rfl, rfl, rfl⟩) p e ha hc hk s m _ below hf ((Spec.applies_iff_loose hf).mp happ).1 ⟨rfl, State.Warmed39.refl s, rfl⟩ trivial
  refine ⟨n, _, h1, h2, h3, hpost _ _ _ _ _ _ ⟨Cond.after_iff.mpr rfl, Cond.after_iff.mpr (eq_i res_at (Term.int_eval (1)) rfl), trivial⟩ ⟨hq.1, hq.2.1, (hq.2.2.sift fun y hy => Or.inr (N y hy)).mono (by decide) (by decide)⟩⟩
theorem main_1_1 : Claimed_1_1 := comes_1 fun _ _ _ _ _ _ h hF => ⟨h.1, hF⟩
theorem main_1_2 : Claimed_1_2 := comes_1 fun _ _ _ _ _ _ h hF => ⟨h.2.1, hF⟩
end Jvm.Pilot.@@N@@
namespace Jvm.Pilot.@@N@@
open Jvm Jvm.ClassFile Sem Op Lib Jvm.Free Jvm.Stand Jvm.Pilot.@@N@@.Jvm.D
/-! MADE BY PROGRAM (witnessworld.py) out of the Statement's table words and the real class files: 9 classes; the members and pool entries that the words name. The judged class is class 1, her method 3. -/
namespace start1
open Jvm.ClassFile
def u (s : String) : CpInfo := .utf8 (stringToUtf16 s)
/-- a pool by its gaps: so many unusable entries, then the entry; so many at the end -/
def gap : Nat → List CpInfo → List CpInfo
  | 0, r => r
  | n + 1, r => .unusable :: gap n r
def poolList (es : List (Nat × CpInfo)) (last : Nat) : List CpInfo := es.foldr (fun e r => gap e.1 (e.2 :: r)) (gap last [])
def pool (es : List (Nat × CpInfo)) (last : Nat) : Array CpInfo := ⟨poolList es last⟩
def fileOf (pool : Array CpInfo) (this : Nat) (attrs : Array Attribute := #[]) (ms : Array MethodInfo := #[]) (fl : Nat := 33) (sup : Nat := 0) (ifs : Array Nat := #[]) (fds : Array FieldInfo := #[]) : ClassFile where
  minorVersion := 0
  majorVersion := 65
  constantPool := pool
  accessFlags := fl
  thisClass := this
  superClass := sup
  interfaces := ifs
  fields := fds
  methods := ms
  attributes := attrs
def plain (name : String) (sup : Option ClassId) : Class where
  name := name
  kind := .ordinary
  loader := none
  accessFlags := 33
  super := sup
  interfaces := #[]
  cf := none
  fields := #[]
  methods := #[]
  instanceTypes := #[]
  staticTypes := #[]
  resolved := #[]
  callSites := []
  init := .initialized
  statics := none
  mirror := none

def pool0 : Array CpInfo := pool [(5, u "<init>"), (0, u "()V"), (1, .class_ 10), (1, u "java/lang/Object")] 113

def k0c0 : Code := { maxStack := 0, maxLocals := 1, code := object_method_1_code, exceptionTable := #[], attributes := #[] }
def k0m0 : Method := { name := "<init>", desc := "()V", sig := { parameters := [], returnType := none }, accessFlags := 1, code := some k0c0 }
/-- java/lang/Object -/
def k0 : Class := { plain "java/lang/Object" none with
  accessFlags := 33
  interfaces := #[]
  cf := some (fileOf pool0 8 #[] #[{ accessFlags := 1, nameIndex := 5, descriptorIndex := 6, attributes := #[] }] 33 0 #[] #[])
  fields := #[]
  methods := #[k0m0]
  instanceTypes := #[]
  staticTypes := #[]
  resolved := Array.replicate 124 none
  statics := none }

def pool1 : Array CpInfo := pool [(2, .class_ 4), (1, u "java/lang/Object"), (0, u "<init>"), (0, u "()V"), (0, .methodref 8 9), (0, .class_ 10), (0, .nameAndType 11 12), (0, u "DredViewKeeperL3"), (0, u "bit"), (0, u "(III)I"), (0, .class_ 14), (0, u "DredViewKeeper"), (0, .methodref 13 16), (0, .nameAndType 5 17), (0, u "(II)V"), (0, .methodref 13 19), (0, .nameAndType 20 21), (0, u "insertEdge"), (0, u "(II)I"), (0, .methodref 8 23), (0, .nameAndType 24 21), (0, u "step"), (0, .methodref 13 26), (0, .nameAndType 27 28), (0, u "reaches"), (0, u "(II)Z"), (0, .methodref 13 30), (0, .nameAndType 31 21), (0, u "derivationCount"), (0, .methodref 13 33), (0, .nameAndType 34 35), (0, u "viewSize"), (0, u "()I"), (0, .methodref 13 37), (0, .nameAndType 38 35), (0, u "edgeCount"), (3, u "law"), (0, u "(I)Z")] 2

def k1m0 : Method := { name := "<init>", desc := "()V", sig := { parameters := [], returnType := none }, accessFlags := 1, code := none }
def k1c1 : Code := { maxStack := 3, maxLocals := 3, code := method_2_code, exceptionTable := #[], attributes := #[] }
def k1m1 : Method := { name := "bit", desc := "(III)I", sig := { parameters := [.int, .int, .int], returnType := some .int }, accessFlags := 10, code := some k1c1 }
def k1c2 : Code := { maxStack := 4, maxLocals := 6, code := method_3_code, exceptionTable := #[], attributes := #[] }
def k1m2 : Method := { name := "step", desc := "(II)I", sig := { parameters := [.int, .int], returnType := some .int }, accessFlags := 10, code := some k1c2 }
def k1c3 : Code := { maxStack := 5, maxLocals := 12, code := code, exceptionTable := #[], attributes := #[] }
def k1m3 : Method := { name := "law", desc := "(I)Z", sig := { parameters := [.int], returnType := some .boolean }, accessFlags := 9, code := some k1c3 }
/-- DredViewKeeperL3 -/
def k1 : Class := { plain "DredViewKeeperL3" (some 0) with
  accessFlags := 49
  interfaces := #[]
  cf := some (fileOf pool1 8 #[] #[{ accessFlags := 1, nameIndex := 5, descriptorIndex := 6, attributes := #[] }, { accessFlags := 10, nameIndex := 11, descriptorIndex := 12, attributes := #[] }, { accessFlags := 10, nameIndex := 24, descriptorIndex := 21, attributes := #[] }, { accessFlags := 9, nameIndex := 42, descriptorIndex := 43, attributes := #[] }] 49 2 #[] #[])
  fields := #[]
  methods := #[k1m0, k1m1, k1m2, k1m3]
  instanceTypes := #[]
  staticTypes := #[]
  resolved := Array.replicate 46 none
  statics := none }

def pool2 : Array CpInfo := pool [(1, .methodref 2 3), (0, .class_ 4), (0, .nameAndType 5 6), (0, u "java/lang/Object"), (0, u "<init>"), (0, u "()V"), (0, .fieldref 8 9), (0, .class_ 10), (0, .nameAndType 11 12), (0, u "DredViewKeeper"), (0, u "kindInsert"), (0, u "I"), (0, .fieldref 8 14), (0, .nameAndType 15 12), (0, u "kindDelete"), (0, .fieldref 8 17), (0, .nameAndType 18 19), (0, u "edgeRow"), (0, u "[I"), (0, .fieldref 8 21), (0, .nameAndType 22 19), (0, u "reachRow"), (0, .fieldref 8 24), (0, .nameAndType 25 19), (0, u "snapRow"), (0, .fieldref 8 27), (0, .nameAndType 28 19), (0, u "deltaCur"), (0, .fieldref 8 30), (0, .nameAndType 31 19), (0, u "deltaNext"), (0, .fieldref 8 33), (0, .nameAndType 34 19), (0, u "doomedRow"), (0, .fieldref 8 36), (0, .nameAndType 37 19), (0, u "pendKind"), (0, .fieldref 8 39), (0, .nameAndType 40 19), (0, u "pendFrom"), (0, .fieldref 8 42), (0, .nameAndType 43 19), (0, u "pendTo"), (0, .fieldref 8 45), (0, .nameAndType 46 12), (0, u "n"), (0, .fieldref 8 48), (0, .nameAndType 49 12), (0, u "m"), (0, .fieldref 8 51), (0, .nameAndType 52 12), (0, u "roundLimit"), (0, .fieldref 8 54), (0, .nameAndType 55 12), (0, u "edgeCount"), (0, .fieldref 8 57), (0, .nameAndType 58 12), (0, u "pendLen"), (0, .fieldref 8 60), (0, .nameAndType 61 12), (0, u "lastAdd"), (0, .fieldref 8 63), (0, .nameAndType 64 12), (0, u "lastRem"), (0, .methodref 8 66), (0, .nameAndType 67 68), (0, u "isValid"), (0, u "(I)Z"), (0, .methodref 8 70), (0, .nameAndType 71 72), (0, u "edgePresent"), (0, u "(II)Z"), (0, .methodref 8 74), (0, .nameAndType 75 6), (0, u "takeSnapshot"), (0, .methodref 8 77), (0, .nameAndType 78 79), (0, u "addEdgeAndPropagate"), (0, u "(II)V"), (0, .methodref 8 81), (0, .nameAndType 82 83), (0, u "countAdded"), (0, u "()I"), (14, .methodref 8 99), (0, .nameAndType 100 72), (0, u "testBit"), (0, .methodref 8 102), (0, .nameAndType 103 104), (0, u "popCount"), (0, u "(I)I"), (0, .methodref 8 106), (0, .nameAndType 107 104), (0, u "bit"), (0, .methodref 8 109), (0, .nameAndType 110 6), (0, u "clearDelta"), (0, .methodref 8 112), (0, .nameAndType 113 6), (0, u "propagateAdditions"), (0, .methodref 8 115), (0, .nameAndType 116 117), (0, u "mergeDeltaIntoReach"), (0, u "()Z"), (0, .methodref 8 119), (0, .nameAndType 120 6), (0, u "computeNextAdditions"), (0, .methodref 8 122), (0, .nameAndType 123 6), (0, u "shiftDelta"), (0, .methodref 8 125), (0, .nameAndType 126 104), (0, u "gatherDelta"), (21, .integer 1431655765), (0, .integer 858993459), (0, .integer 252645135), (0, .integer 16843009), (0, u "BAD_NODE"), (2, u "DUPLICATE"), (1, u "MISSING"), (1, u "FULL"), (1, u "PENDING_FULL"), (1, u "MIN_NODES"), (1, u "MAX_NODES"), (1, u "MIN_EDGES"), (1, u "MAX_EDGES"), (1, u "MAX_PENDING"), (4, u "insertEdge"), (0, u "(II)I"), (6, u "reaches"), (0, u "derivationCount"), (1, u "viewSize")] 6

def k2c0 : Code := { maxStack := 3, maxLocals := 5, code := prog_1_method_1_code, exceptionTable := #[], attributes := #[] }
def k2m0 : Method := { name := "<init>", desc := "(II)V", sig := { parameters := [.int, .int], returnType := none }, accessFlags := 1, code := some k2c0 }
def k2c1 : Code := { maxStack := 3, maxLocals := 3, code := prog_1_method_2_code, exceptionTable := #[], attributes := #[] }
def k2m1 : Method := { name := "insertEdge", desc := "(II)I", sig := { parameters := [.int, .int], returnType := some .int }, accessFlags := 1, code := some k2c1 }
def k2c2 : Code := { maxStack := 3, maxLocals := 3, code := prog_1_method_9_code, exceptionTable := #[], attributes := #[] }
def k2m2 : Method := { name := "reaches", desc := "(II)Z", sig := { parameters := [.int, .int], returnType := some .boolean }, accessFlags := 1, code := some k2c2 }
def k2c3 : Code := { maxStack := 3, maxLocals := 6, code := prog_1_method_10_code, exceptionTable := #[], attributes := #[] }
def k2m3 : Method := { name := "derivationCount", desc := "(II)I", sig := { parameters := [.int, .int], returnType := some .int }, accessFlags := 1, code := some k2c3 }
def k2c4 : Code := { maxStack := 1, maxLocals := 1, code := prog_1_method_12_code, exceptionTable := #[], attributes := #[] }
def k2m4 : Method := { name := "edgeCount", desc := "()I", sig := { parameters := [], returnType := some .int }, accessFlags := 1, code := some k2c4 }
def k2c5 : Code := { maxStack := 4, maxLocals := 3, code := prog_1_method_13_code, exceptionTable := #[], attributes := #[] }
def k2m5 : Method := { name := "viewSize", desc := "()I", sig := { parameters := [], returnType := some .int }, accessFlags := 1, code := some k2c5 }
def k2c6 : Code := { maxStack := 5, maxLocals := 5, code := prog_1_method_20_code, exceptionTable := #[], attributes := #[] }
def k2m6 : Method := { name := "addEdgeAndPropagate", desc := "(II)V", sig := { parameters := [.int, .int], returnType := none }, accessFlags := 2, code := some k2c6 }
def k2c7 : Code := { maxStack := 2, maxLocals := 2, code := prog_1_method_21_code, exceptionTable := #[], attributes := #[] }
def k2m7 : Method := { name := "propagateAdditions", desc := "()V", sig := { parameters := [], returnType := none }, accessFlags := 2, code := some k2c7 }
def k2c8 : Code := { maxStack := 4, maxLocals := 4, code := prog_1_method_22_code, exceptionTable := #[], attributes := #[] }
def k2m8 : Method := { name := "mergeDeltaIntoReach", desc := "()Z", sig := { parameters := [], returnType := some .boolean }, accessFlags := 2, code := some k2c8 }
def k2c9 : Code := { maxStack := 5, maxLocals := 3, code := prog_1_method_23_code, exceptionTable := #[], attributes := #[] }
def k2m9 : Method := { name := "computeNextAdditions", desc := "()V", sig := { parameters := [], returnType := none }, accessFlags := 2, code := some k2c9 }
def k2c10 : Code := { maxStack := 3, maxLocals := 5, code := prog_1_method_30_code, exceptionTable := #[], attributes := #[] }
def k2m10 : Method := { name := "gatherDelta", desc := "(I)I", sig := { parameters := [.int], returnType := some .int }, accessFlags := 2, code := some k2c10 }
def k2c11 : Code := { maxStack := 4, maxLocals := 2, code := prog_1_method_32_code, exceptionTable := #[], attributes := #[] }
def k2m11 : Method := { name := "shiftDelta", desc := "()V", sig := { parameters := [], returnType := none }, accessFlags := 2, code := some k2c11 }
def k2c12 : Code := { maxStack := 3, maxLocals := 2, code := prog_1_method_33_code, exceptionTable := #[], attributes := #[] }
def k2m12 : Method := { name := "clearDelta", desc := "()V", sig := { parameters := [], returnType := none }, accessFlags := 2, code := some k2c12 }
def k2c13 : Code := { maxStack := 4, maxLocals := 2, code := prog_1_method_35_code, exceptionTable := #[], attributes := #[] }
def k2m13 : Method := { name := "takeSnapshot", desc := "()V", sig := { parameters := [], returnType := none }, accessFlags := 2, code := some k2c13 }
def k2c14 : Code := { maxStack := 5, maxLocals := 3, code := prog_1_method_36_code, exceptionTable := #[], attributes := #[] }
def k2m14 : Method := { name := "countAdded", desc := "()I", sig := { parameters := [], returnType := some .int }, accessFlags := 2, code := some k2c14 }
def k2c15 : Code := { maxStack := 2, maxLocals := 2, code := prog_1_method_38_code, exceptionTable := #[], attributes := #[] }
def k2m15 : Method := { name := "isValid", desc := "(I)Z", sig := { parameters := [.int], returnType := some .boolean }, accessFlags := 2, code := some k2c15 }
def k2c16 : Code := { maxStack := 2, maxLocals := 2, code := prog_1_method_39_code, exceptionTable := #[], attributes := #[] }
def k2m16 : Method := { name := "bit", desc := "(I)I", sig := { parameters := [.int], returnType := some .int }, accessFlags := 2, code := some k2c16 }
def k2c17 : Code := { maxStack := 2, maxLocals := 3, code := prog_1_method_40_code, exceptionTable := #[], attributes := #[] }
def k2m17 : Method := { name := "testBit", desc := "(II)Z", sig := { parameters := [.int, .int], returnType := some .boolean }, accessFlags := 2, code := some k2c17 }
def k2c18 : Code := { maxStack := 2, maxLocals := 3, code := prog_1_method_41_code, exceptionTable := #[], attributes := #[] }
def k2m18 : Method := { name := "edgePresent", desc := "(II)Z", sig := { parameters := [.int, .int], returnType := some .boolean }, accessFlags := 2, code := some k2c18 }
def k2c19 : Code := { maxStack := 3, maxLocals := 3, code := prog_1_method_42_code, exceptionTable := #[], attributes := #[] }
def k2m19 : Method := { name := "popCount", desc := "(I)I", sig := { parameters := [.int], returnType := some .int }, accessFlags := 2, code := some k2c19 }
/-- DredViewKeeper -/
def k2 : Class := { plain "DredViewKeeper" (some 0) with
  accessFlags := 49
  interfaces := #[]
  cf := some (fileOf pool2 8 #[] #[{ accessFlags := 1, nameIndex := 5, descriptorIndex := 79, attributes := #[] }, { accessFlags := 1, nameIndex := 176, descriptorIndex := 177, attributes := #[] }, { accessFlags := 1, nameIndex := 184, descriptorIndex := 72, attributes := #[] }, { accessFlags := 1, nameIndex := 185, descriptorIndex := 177, attributes := #[] }, { accessFlags := 1, nameIndex := 55, descriptorIndex := 83, attributes := #[] }, { accessFlags := 1, nameIndex := 187, descriptorIndex := 83, attributes := #[] }, { accessFlags := 2, nameIndex := 78, descriptorIndex := 79, attributes := #[] }, { accessFlags := 2, nameIndex := 113, descriptorIndex := 6, attributes := #[] }, { accessFlags := 2, nameIndex := 116, descriptorIndex := 117, attributes := #[] }, { accessFlags := 2, nameIndex := 120, descriptorIndex := 6, attributes := #[] }, { accessFlags := 2, nameIndex := 126, descriptorIndex := 104, attributes := #[] }, { accessFlags := 2, nameIndex := 123, descriptorIndex := 6, attributes := #[] }, { accessFlags := 2, nameIndex := 110, descriptorIndex := 6, attributes := #[] }, { accessFlags := 2, nameIndex := 75, descriptorIndex := 6, attributes := #[] }, { accessFlags := 2, nameIndex := 82, descriptorIndex := 83, attributes := #[] }, { accessFlags := 2, nameIndex := 67, descriptorIndex := 68, attributes := #[] }, { accessFlags := 2, nameIndex := 107, descriptorIndex := 104, attributes := #[] }, { accessFlags := 2, nameIndex := 100, descriptorIndex := 72, attributes := #[] }, { accessFlags := 2, nameIndex := 71, descriptorIndex := 72, attributes := #[] }, { accessFlags := 2, nameIndex := 103, descriptorIndex := 104, attributes := #[] }] 49 2 #[] #[{ accessFlags := 25, nameIndex := 152, descriptorIndex := 12, attributes := #[] }, { accessFlags := 25, nameIndex := 155, descriptorIndex := 12, attributes := #[] }, { accessFlags := 25, nameIndex := 157, descriptorIndex := 12, attributes := #[] }, { accessFlags := 25, nameIndex := 159, descriptorIndex := 12, attributes := #[] }, { accessFlags := 25, nameIndex := 161, descriptorIndex := 12, attributes := #[] }, { accessFlags := 25, nameIndex := 163, descriptorIndex := 12, attributes := #[] }, { accessFlags := 25, nameIndex := 165, descriptorIndex := 12, attributes := #[] }, { accessFlags := 25, nameIndex := 167, descriptorIndex := 12, attributes := #[] }, { accessFlags := 25, nameIndex := 169, descriptorIndex := 12, attributes := #[] }, { accessFlags := 25, nameIndex := 171, descriptorIndex := 12, attributes := #[] }, { accessFlags := 18, nameIndex := 11, descriptorIndex := 12, attributes := #[] }, { accessFlags := 18, nameIndex := 15, descriptorIndex := 12, attributes := #[] }, { accessFlags := 2, nameIndex := 46, descriptorIndex := 12, attributes := #[] }, { accessFlags := 2, nameIndex := 49, descriptorIndex := 12, attributes := #[] }, { accessFlags := 2, nameIndex := 55, descriptorIndex := 12, attributes := #[] }, { accessFlags := 2, nameIndex := 52, descriptorIndex := 12, attributes := #[] }, { accessFlags := 18, nameIndex := 18, descriptorIndex := 19, attributes := #[] }, { accessFlags := 18, nameIndex := 22, descriptorIndex := 19, attributes := #[] }, { accessFlags := 18, nameIndex := 25, descriptorIndex := 19, attributes := #[] }, { accessFlags := 18, nameIndex := 28, descriptorIndex := 19, attributes := #[] }, { accessFlags := 18, nameIndex := 31, descriptorIndex := 19, attributes := #[] }, { accessFlags := 18, nameIndex := 34, descriptorIndex := 19, attributes := #[] }, { accessFlags := 18, nameIndex := 37, descriptorIndex := 19, attributes := #[] }, { accessFlags := 18, nameIndex := 40, descriptorIndex := 19, attributes := #[] }, { accessFlags := 18, nameIndex := 43, descriptorIndex := 19, attributes := #[] }, { accessFlags := 2, nameIndex := 58, descriptorIndex := 12, attributes := #[] }, { accessFlags := 2, nameIndex := 61, descriptorIndex := 12, attributes := #[] }, { accessFlags := 2, nameIndex := 64, descriptorIndex := 12, attributes := #[] }])
  fields := #[{ name := "BAD_NODE", type := .int, accessFlags := 25, slot := 0, constantValue := 0 }, { name := "DUPLICATE", type := .int, accessFlags := 25, slot := 1, constantValue := 0 }, { name := "MISSING", type := .int, accessFlags := 25, slot := 2, constantValue := 0 }, { name := "FULL", type := .int, accessFlags := 25, slot := 3, constantValue := 0 }, { name := "PENDING_FULL", type := .int, accessFlags := 25, slot := 4, constantValue := 0 }, { name := "MIN_NODES", type := .int, accessFlags := 25, slot := 5, constantValue := 0 }, { name := "MAX_NODES", type := .int, accessFlags := 25, slot := 6, constantValue := 0 }, { name := "MIN_EDGES", type := .int, accessFlags := 25, slot := 7, constantValue := 0 }, { name := "MAX_EDGES", type := .int, accessFlags := 25, slot := 8, constantValue := 0 }, { name := "MAX_PENDING", type := .int, accessFlags := 25, slot := 9, constantValue := 0 }, { name := "kindInsert", type := .int, accessFlags := 18, slot := 0, constantValue := 0 }, { name := "kindDelete", type := .int, accessFlags := 18, slot := 1, constantValue := 0 }, { name := "n", type := .int, accessFlags := 2, slot := 2, constantValue := 0 }, { name := "m", type := .int, accessFlags := 2, slot := 3, constantValue := 0 }, { name := "edgeCount", type := .int, accessFlags := 2, slot := 4, constantValue := 0 }, { name := "roundLimit", type := .int, accessFlags := 2, slot := 5, constantValue := 0 }, { name := "edgeRow", type := (.array .int), accessFlags := 18, slot := 6, constantValue := 0 }, { name := "reachRow", type := (.array .int), accessFlags := 18, slot := 7, constantValue := 0 }, { name := "snapRow", type := (.array .int), accessFlags := 18, slot := 8, constantValue := 0 }, { name := "deltaCur", type := (.array .int), accessFlags := 18, slot := 9, constantValue := 0 }, { name := "deltaNext", type := (.array .int), accessFlags := 18, slot := 10, constantValue := 0 }, { name := "doomedRow", type := (.array .int), accessFlags := 18, slot := 11, constantValue := 0 }, { name := "pendKind", type := (.array .int), accessFlags := 18, slot := 12, constantValue := 0 }, { name := "pendFrom", type := (.array .int), accessFlags := 18, slot := 13, constantValue := 0 }, { name := "pendTo", type := (.array .int), accessFlags := 18, slot := 14, constantValue := 0 }, { name := "pendLen", type := .int, accessFlags := 2, slot := 15, constantValue := 0 }, { name := "lastAdd", type := .int, accessFlags := 2, slot := 16, constantValue := 0 }, { name := "lastRem", type := .int, accessFlags := 2, slot := 17, constantValue := 0 }]
  methods := #[k2m0, k2m1, k2m2, k2m3, k2m4, k2m5, k2m6, k2m7, k2m8, k2m9, k2m10, k2m11, k2m12, k2m13, k2m14, k2m15, k2m16, k2m17, k2m18, k2m19]
  instanceTypes := #[.int, .int, .int, .int, .int, .int, (.array .int), (.array .int), (.array .int), (.array .int), (.array .int), (.array .int), (.array .int), (.array .int), (.array .int), .int, .int, .int]
  staticTypes := #[.int, .int, .int, .int, .int, .int, .int, .int, .int, .int]
  resolved := Array.replicate 194 none
  statics := none }

def pool3 : Array CpInfo := pool [(1, u "java/lang/Cloneable"), (0, .class_ 1), (0, u "java/lang/Object"), (0, .class_ 3)] 3

/-- java/lang/Cloneable -/
def k3 : Class := { plain "java/lang/Cloneable" (some 0) with
  accessFlags := 1537
  interfaces := #[]
  cf := some (fileOf pool3 2 #[] #[] 1537 4 #[] #[])
  fields := #[]
  methods := #[]
  instanceTypes := #[]
  staticTypes := #[]
  resolved := Array.replicate 8 none
  statics := none }

def pool4 : Array CpInfo := pool [(1, u "java/io/Serializable"), (0, .class_ 1), (0, u "java/lang/Object"), (0, .class_ 3)] 3

/-- java/io/Serializable -/
def k4 : Class := { plain "java/io/Serializable" (some 0) with
  accessFlags := 1537
  interfaces := #[]
  cf := some (fileOf pool4 2 #[] #[] 1537 4 #[] #[])
  fields := #[]
  methods := #[]
  instanceTypes := #[]
  staticTypes := #[]
  resolved := Array.replicate 8 none
  statics := none }

/-- the primitive byte -/
def k5 : Class := { plain "byte" none with kind := .primitive 'B', accessFlags := 0x411 }
/-- [B -/
def k6 : Class := { plain "[B" (some 0) with kind := .array 5 .byte, interfaces := #[3, 4], accessFlags := 1041 }

/-- the primitive int -/
def k7 : Class := { plain "int" none with kind := .primitive 'I', accessFlags := 0x411 }
/-- [I -/
def k8 : Class := { plain "[I" (some 0) with kind := .array 7 .int, interfaces := #[3, 4], accessFlags := 1041 }

def heap : Heap := #[]
def classes : Array Class := #[k0, k1, k2, k3, k4, k5, k6, k7, k8]
def interned : List (Array UInt16 × Addr) := []
def slotsUsed : Nat := 0
def theMethod : MethodId := ⟨1, 3⟩
def args0 : Array Value := #[.int 5]
def aboutOver (below : List Frame) : State where
  vm := { classes := classes, interned := interned.toArray }
  heap := heap
  slotsUsed := slotsUsed
  threads := #[{ frames := .invoking theMethod args0 :: below }]
def below0 : List Frame := [.native { method := ⟨0, 0⟩, args := #[] }]
def about1 : State := aboutOver below0
def p0 : Program := .bare "" "" ""
def e0 : Env := launch0.env 0 0 0
theorem w_frames : about1.frames = Frame.invoking theMethod args0 :: below0 := rfl
set_option maxRecDepth 65536 in
theorem w_args : argsFit about1.vm theMethod args0 = true := by decide +kernel
set_option maxRecDepth 65536 in
theorem w_heap : heapFits about1 = true := by decide +kernel
set_option maxRecDepth 65536 in
theorem w_runnable : about1.curStatus? = some .runnable := by decide +kernel
set_option maxRecDepth 65536 in
theorem w_alone : about1.alone = true := by decide +kernel
set_option maxRecDepth 65536 in
theorem w_named : about1.methodNamed? x = some theMethod := by decide +kernel
set_option maxRecDepth 65536 in
theorem w_hears : about1.hears theMethod below0 = true := by decide +kernel
set_option maxRecDepth 65536 in
theorem w_ripe : about1.ripe theMethod args0 below0 = true := by decide +kernel
theorem w_running : about1.status = .running := rfl
set_option maxRecDepth 65536 in
theorem w_room : about1.hasRoom e0.platform room_1 = true :=
  launch0.hasRoom_least _ room_1 (by decide +kernel) (by decide +kernel) (by decide +kernel) (by decide +kernel) (by decide +kernel) (by decide +kernel)
theorem allAtoms_all (ts : List Jvm.Cond) (a : Array Jvm.Value) (st : Jvm.State) : (allAtoms ts).before a st = ts.all (fun c => c.before a st) := by
  induction ts with
  | nil => rfl
  | cons c t ih =>
    show (Jvm.Cond.and c (allAtoms t)).before a st = _
    rw [Jvm.Cond.before_and, ih, List.all_cons]
def words1 : List Jvm.Cond := Jvm.Cond.code x code maxLocals ret :: tables_1
/-- a 'code' word, met by the world's own term for the bytes: nothing is compared byte by byte -/
theorem code_word {y : MethodName} {bytes : ByteArray} {mx : Nat} {rt : Option FieldType} {a : Array Value} {s : State} {m : MethodId} {meth : Method} {c : Code} (h1 : s.methodNamed? y = some m) (h2 : s.vm.method? m = some meth) (h3 : meth.code = some c) (h4 : c.code = bytes)
    (h5 : (c.maxLocals == mx && c.exceptionTable.isEmpty && decide (c.maxStack ≤ mostOperands) && decide (meth.sig.returnType = rt) && !meth.locks && decide (parseMethodDescriptor y.desc = some meth.sig)) = true) : (Jvm.Cond.code y bytes mx rt).before a s = true := by
  simp only [Bool.and_eq_true, beq_iff_eq, Bool.not_eq_true', decide_eq_true_eq] at h5
  obtain ⟨⟨⟨⟨⟨g1, g2⟩, g3⟩, g4⟩, g5⟩, g6⟩ := h5
  simp [Cond.before, Cond.holds, Cond.value, h1, h2, h3, h4, g1, g2, g3, g4, g5, g6]
def isCode : Jvm.Cond → Bool
  | .code _ _ _ _ => true
  | _ => false
theorem all_split {L : List Jvm.Cond} {P : Jvm.Cond → Bool} (h1 : L.all (fun c => isCode c || P c) = true) (h2 : ∀ c ∈ L.filter isCode, P c = true) : L.all P = true := by
  refine List.all_eq_true.mpr fun c hc => ?_
  have h := List.all_eq_true.mp h1 c hc
  rcases Bool.eq_false_or_eq_true (isCode c) with hi | hi
  · exact h2 c (List.mem_filter.mpr ⟨hc, hi⟩)
  · simpa [hi] using h
set_option maxRecDepth 65536 in
theorem w_c0 : (Jvm.Cond.code x code maxLocals ret).before args0 about1 = true := code_word (m := ⟨1, 3⟩) (meth := k1m3) (c := k1c3) (by decide +kernel) rfl rfl rfl (by decide +kernel)
set_option maxRecDepth 65536 in
theorem w_c1 : (Jvm.Cond.code ({ cls := "DredViewKeeper", name := "<init>", desc := "(II)V" } : Jvm.MethodName) prog_1_method_1_code (5 : Nat) (Option.none : Option Jvm.ClassFile.FieldType)).before args0 about1 = true := code_word (m := ⟨2, 0⟩) (meth := k2m0) (c := k2c0) (by decide +kernel) rfl rfl rfl (by decide +kernel)
set_option maxRecDepth 65536 in
theorem w_c2 : (Jvm.Cond.code ({ cls := "java/lang/Object", name := "<init>", desc := "()V" } : Jvm.MethodName) object_method_1_code (1 : Nat) (Option.none : Option Jvm.ClassFile.FieldType)).before args0 about1 = true := code_word (m := ⟨0, 0⟩) (meth := k0m0) (c := k0c0) (by decide +kernel) rfl rfl rfl (by decide +kernel)
set_option maxRecDepth 65536 in
theorem w_c3 : (Jvm.Cond.code ({ cls := "DredViewKeeperL3", name := "bit", desc := "(III)I" } : Jvm.MethodName) method_2_code (3 : Nat) (Option.some Jvm.ClassFile.FieldType.int)).before args0 about1 = true := code_word (m := ⟨1, 1⟩) (meth := k1m1) (c := k1c1) (by decide +kernel) rfl rfl rfl (by decide +kernel)
set_option maxRecDepth 65536 in
theorem w_c4 : (Jvm.Cond.code ({ cls := "DredViewKeeperL3", name := "step", desc := "(II)I" } : Jvm.MethodName) method_3_code (6 : Nat) (Option.some Jvm.ClassFile.FieldType.int)).before args0 about1 = true := code_word (m := ⟨1, 2⟩) (meth := k1m2) (c := k1c2) (by decide +kernel) rfl rfl rfl (by decide +kernel)
set_option maxRecDepth 65536 in
theorem w_c5 : (Jvm.Cond.code ({ cls := "DredViewKeeper", name := "reaches", desc := "(II)Z" } : Jvm.MethodName) prog_1_method_9_code (3 : Nat) (Option.some Jvm.ClassFile.FieldType.boolean)).before args0 about1 = true := code_word (m := ⟨2, 2⟩) (meth := k2m2) (c := k2c2) (by decide +kernel) rfl rfl rfl (by decide +kernel)
set_option maxRecDepth 65536 in
theorem w_c6 : (Jvm.Cond.code ({ cls := "DredViewKeeper", name := "isValid", desc := "(I)Z" } : Jvm.MethodName) prog_1_method_38_code (2 : Nat) (Option.some Jvm.ClassFile.FieldType.boolean)).before args0 about1 = true := code_word (m := ⟨2, 15⟩) (meth := k2m15) (c := k2c15) (by decide +kernel) rfl rfl rfl (by decide +kernel)
set_option maxRecDepth 65536 in
theorem w_c7 : (Jvm.Cond.code ({ cls := "DredViewKeeper", name := "testBit", desc := "(II)Z" } : Jvm.MethodName) prog_1_method_40_code (3 : Nat) (Option.some Jvm.ClassFile.FieldType.boolean)).before args0 about1 = true := code_word (m := ⟨2, 17⟩) (meth := k2m17) (c := k2c17) (by decide +kernel) rfl rfl rfl (by decide +kernel)
set_option maxRecDepth 65536 in
theorem w_c8 : (Jvm.Cond.code ({ cls := "DredViewKeeper", name := "derivationCount", desc := "(II)I" } : Jvm.MethodName) prog_1_method_10_code (6 : Nat) (Option.some Jvm.ClassFile.FieldType.int)).before args0 about1 = true := code_word (m := ⟨2, 3⟩) (meth := k2m3) (c := k2c3) (by decide +kernel) rfl rfl rfl (by decide +kernel)
set_option maxRecDepth 65536 in
theorem w_c9 : (Jvm.Cond.code ({ cls := "DredViewKeeper", name := "viewSize", desc := "()I" } : Jvm.MethodName) prog_1_method_13_code (3 : Nat) (Option.some Jvm.ClassFile.FieldType.int)).before args0 about1 = true := code_word (m := ⟨2, 5⟩) (meth := k2m5) (c := k2c5) (by decide +kernel) rfl rfl rfl (by decide +kernel)
set_option maxRecDepth 65536 in
theorem w_c10 : (Jvm.Cond.code ({ cls := "DredViewKeeper", name := "popCount", desc := "(I)I" } : Jvm.MethodName) prog_1_method_42_code (3 : Nat) (Option.some Jvm.ClassFile.FieldType.int)).before args0 about1 = true := code_word (m := ⟨2, 19⟩) (meth := k2m19) (c := k2c19) (by decide +kernel) rfl rfl rfl (by decide +kernel)
set_option maxRecDepth 65536 in
theorem w_c11 : (Jvm.Cond.code ({ cls := "DredViewKeeper", name := "edgeCount", desc := "()I" } : Jvm.MethodName) prog_1_method_12_code (1 : Nat) (Option.some Jvm.ClassFile.FieldType.int)).before args0 about1 = true := code_word (m := ⟨2, 4⟩) (meth := k2m4) (c := k2c4) (by decide +kernel) rfl rfl rfl (by decide +kernel)
set_option maxRecDepth 65536 in
theorem w_c12 : (Jvm.Cond.code ({ cls := "DredViewKeeper", name := "insertEdge", desc := "(II)I" } : Jvm.MethodName) prog_1_method_2_code (3 : Nat) (Option.some Jvm.ClassFile.FieldType.int)).before args0 about1 = true := code_word (m := ⟨2, 1⟩) (meth := k2m1) (c := k2c1) (by decide +kernel) rfl rfl rfl (by decide +kernel)
set_option maxRecDepth 65536 in
theorem w_c13 : (Jvm.Cond.code ({ cls := "DredViewKeeper", name := "edgePresent", desc := "(II)Z" } : Jvm.MethodName) prog_1_method_41_code (3 : Nat) (Option.some Jvm.ClassFile.FieldType.boolean)).before args0 about1 = true := code_word (m := ⟨2, 18⟩) (meth := k2m18) (c := k2c18) (by decide +kernel) rfl rfl rfl (by decide +kernel)
set_option maxRecDepth 65536 in
theorem w_c14 : (Jvm.Cond.code ({ cls := "DredViewKeeper", name := "takeSnapshot", desc := "()V" } : Jvm.MethodName) prog_1_method_35_code (2 : Nat) (Option.none : Option Jvm.ClassFile.FieldType)).before args0 about1 = true := code_word (m := ⟨2, 13⟩) (meth := k2m13) (c := k2c13) (by decide +kernel) rfl rfl rfl (by decide +kernel)
set_option maxRecDepth 65536 in
theorem w_c15 : (Jvm.Cond.code ({ cls := "DredViewKeeper", name := "addEdgeAndPropagate", desc := "(II)V" } : Jvm.MethodName) prog_1_method_20_code (5 : Nat) (Option.none : Option Jvm.ClassFile.FieldType)).before args0 about1 = true := code_word (m := ⟨2, 6⟩) (meth := k2m6) (c := k2c6) (by decide +kernel) rfl rfl rfl (by decide +kernel)
set_option maxRecDepth 65536 in
theorem w_c16 : (Jvm.Cond.code ({ cls := "DredViewKeeper", name := "bit", desc := "(I)I" } : Jvm.MethodName) prog_1_method_39_code (2 : Nat) (Option.some Jvm.ClassFile.FieldType.int)).before args0 about1 = true := code_word (m := ⟨2, 16⟩) (meth := k2m16) (c := k2c16) (by decide +kernel) rfl rfl rfl (by decide +kernel)
set_option maxRecDepth 65536 in
theorem w_c17 : (Jvm.Cond.code ({ cls := "DredViewKeeper", name := "clearDelta", desc := "()V" } : Jvm.MethodName) prog_1_method_33_code (2 : Nat) (Option.none : Option Jvm.ClassFile.FieldType)).before args0 about1 = true := code_word (m := ⟨2, 12⟩) (meth := k2m12) (c := k2c12) (by decide +kernel) rfl rfl rfl (by decide +kernel)
set_option maxRecDepth 65536 in
theorem w_c18 : (Jvm.Cond.code ({ cls := "DredViewKeeper", name := "propagateAdditions", desc := "()V" } : Jvm.MethodName) prog_1_method_21_code (2 : Nat) (Option.none : Option Jvm.ClassFile.FieldType)).before args0 about1 = true := code_word (m := ⟨2, 7⟩) (meth := k2m7) (c := k2c7) (by decide +kernel) rfl rfl rfl (by decide +kernel)
set_option maxRecDepth 65536 in
theorem w_c19 : (Jvm.Cond.code ({ cls := "DredViewKeeper", name := "mergeDeltaIntoReach", desc := "()Z" } : Jvm.MethodName) prog_1_method_22_code (4 : Nat) (Option.some Jvm.ClassFile.FieldType.boolean)).before args0 about1 = true := code_word (m := ⟨2, 8⟩) (meth := k2m8) (c := k2c8) (by decide +kernel) rfl rfl rfl (by decide +kernel)
set_option maxRecDepth 65536 in
theorem w_c20 : (Jvm.Cond.code ({ cls := "DredViewKeeper", name := "computeNextAdditions", desc := "()V" } : Jvm.MethodName) prog_1_method_23_code (3 : Nat) (Option.none : Option Jvm.ClassFile.FieldType)).before args0 about1 = true := code_word (m := ⟨2, 9⟩) (meth := k2m9) (c := k2c9) (by decide +kernel) rfl rfl rfl (by decide +kernel)
set_option maxRecDepth 65536 in
theorem w_c21 : (Jvm.Cond.code ({ cls := "DredViewKeeper", name := "gatherDelta", desc := "(I)I" } : Jvm.MethodName) prog_1_method_30_code (5 : Nat) (Option.some Jvm.ClassFile.FieldType.int)).before args0 about1 = true := code_word (m := ⟨2, 10⟩) (meth := k2m10) (c := k2c10) (by decide +kernel) rfl rfl rfl (by decide +kernel)
set_option maxRecDepth 65536 in
theorem w_c22 : (Jvm.Cond.code ({ cls := "DredViewKeeper", name := "shiftDelta", desc := "()V" } : Jvm.MethodName) prog_1_method_32_code (2 : Nat) (Option.none : Option Jvm.ClassFile.FieldType)).before args0 about1 = true := code_word (m := ⟨2, 11⟩) (meth := k2m11) (c := k2c11) (by decide +kernel) rfl rfl rfl (by decide +kernel)
set_option maxRecDepth 65536 in
theorem w_c23 : (Jvm.Cond.code ({ cls := "DredViewKeeper", name := "countAdded", desc := "()I" } : Jvm.MethodName) prog_1_method_36_code (3 : Nat) (Option.some Jvm.ClassFile.FieldType.int)).before args0 about1 = true := code_word (m := ⟨2, 14⟩) (meth := k2m14) (c := k2c14) (by decide +kernel) rfl rfl rfl (by decide +kernel)
def codes1 : List Jvm.Cond := [Jvm.Cond.code x code maxLocals ret, Jvm.Cond.code ({ cls := "DredViewKeeper", name := "<init>", desc := "(II)V" } : Jvm.MethodName) prog_1_method_1_code (5 : Nat) (Option.none : Option Jvm.ClassFile.FieldType), Jvm.Cond.code ({ cls := "java/lang/Object", name := "<init>", desc := "()V" } : Jvm.MethodName) object_method_1_code (1 : Nat) (Option.none : Option Jvm.ClassFile.FieldType), Jvm.Cond.code ({ cls := "DredViewKeeperL3", name := "bit", desc := "(III)I" } : Jvm.MethodName) method_2_code (3 : Nat) (Option.some Jvm.ClassFile.FieldType.int), Jvm.Cond.code ({ cls := "DredViewKeeperL3", name := "step", desc := "(II)I" } : Jvm.MethodName) method_3_code (6 : Nat) (Option.some Jvm.ClassFile.FieldType.int), Jvm.Cond.code ({ cls := "DredViewKeeper", name := "reaches", desc := "(II)Z" } : Jvm.MethodName) prog_1_method_9_code (3 : Nat) (Option.some Jvm.ClassFile.FieldType.boolean), Jvm.Cond.code ({ cls := "DredViewKeeper", name := "isValid", desc := "(I)Z" } : Jvm.MethodName) prog_1_method_38_code (2 : Nat) (Option.some Jvm.ClassFile.FieldType.boolean), Jvm.Cond.code ({ cls := "DredViewKeeper", name := "testBit", desc := "(II)Z" } : Jvm.MethodName) prog_1_method_40_code (3 : Nat) (Option.some Jvm.ClassFile.FieldType.boolean), Jvm.Cond.code ({ cls := "DredViewKeeper", name := "derivationCount", desc := "(II)I" } : Jvm.MethodName) prog_1_method_10_code (6 : Nat) (Option.some Jvm.ClassFile.FieldType.int), Jvm.Cond.code ({ cls := "DredViewKeeper", name := "viewSize", desc := "()I" } : Jvm.MethodName) prog_1_method_13_code (3 : Nat) (Option.some Jvm.ClassFile.FieldType.int), Jvm.Cond.code ({ cls := "DredViewKeeper", name := "popCount", desc := "(I)I" } : Jvm.MethodName) prog_1_method_42_code (3 : Nat) (Option.some Jvm.ClassFile.FieldType.int), Jvm.Cond.code ({ cls := "DredViewKeeper", name := "edgeCount", desc := "()I" } : Jvm.MethodName) prog_1_method_12_code (1 : Nat) (Option.some Jvm.ClassFile.FieldType.int), Jvm.Cond.code ({ cls := "DredViewKeeper", name := "insertEdge", desc := "(II)I" } : Jvm.MethodName) prog_1_method_2_code (3 : Nat) (Option.some Jvm.ClassFile.FieldType.int), Jvm.Cond.code ({ cls := "DredViewKeeper", name := "edgePresent", desc := "(II)Z" } : Jvm.MethodName) prog_1_method_41_code (3 : Nat) (Option.some Jvm.ClassFile.FieldType.boolean), Jvm.Cond.code ({ cls := "DredViewKeeper", name := "takeSnapshot", desc := "()V" } : Jvm.MethodName) prog_1_method_35_code (2 : Nat) (Option.none : Option Jvm.ClassFile.FieldType), Jvm.Cond.code ({ cls := "DredViewKeeper", name := "addEdgeAndPropagate", desc := "(II)V" } : Jvm.MethodName) prog_1_method_20_code (5 : Nat) (Option.none : Option Jvm.ClassFile.FieldType), Jvm.Cond.code ({ cls := "DredViewKeeper", name := "bit", desc := "(I)I" } : Jvm.MethodName) prog_1_method_39_code (2 : Nat) (Option.some Jvm.ClassFile.FieldType.int), Jvm.Cond.code ({ cls := "DredViewKeeper", name := "clearDelta", desc := "()V" } : Jvm.MethodName) prog_1_method_33_code (2 : Nat) (Option.none : Option Jvm.ClassFile.FieldType), Jvm.Cond.code ({ cls := "DredViewKeeper", name := "propagateAdditions", desc := "()V" } : Jvm.MethodName) prog_1_method_21_code (2 : Nat) (Option.none : Option Jvm.ClassFile.FieldType), Jvm.Cond.code ({ cls := "DredViewKeeper", name := "mergeDeltaIntoReach", desc := "()Z" } : Jvm.MethodName) prog_1_method_22_code (4 : Nat) (Option.some Jvm.ClassFile.FieldType.boolean), Jvm.Cond.code ({ cls := "DredViewKeeper", name := "computeNextAdditions", desc := "()V" } : Jvm.MethodName) prog_1_method_23_code (3 : Nat) (Option.none : Option Jvm.ClassFile.FieldType), Jvm.Cond.code ({ cls := "DredViewKeeper", name := "gatherDelta", desc := "(I)I" } : Jvm.MethodName) prog_1_method_30_code (5 : Nat) (Option.some Jvm.ClassFile.FieldType.int), Jvm.Cond.code ({ cls := "DredViewKeeper", name := "shiftDelta", desc := "()V" } : Jvm.MethodName) prog_1_method_32_code (2 : Nat) (Option.none : Option Jvm.ClassFile.FieldType), Jvm.Cond.code ({ cls := "DredViewKeeper", name := "countAdded", desc := "()I" } : Jvm.MethodName) prog_1_method_36_code (3 : Nat) (Option.some Jvm.ClassFile.FieldType.int)]
set_option maxRecDepth 65536 in
theorem codes_eq : words1.filter isCode = codes1 := rfl
theorem w_codes : ∀ c ∈ words1.filter isCode, c.before args0 about1 = true := by
  rw [codes_eq]
  intro c hc
  simp only [codes1, List.mem_cons, List.not_mem_nil, or_false] at hc
  rcases hc with rfl | rfl | rfl | rfl | rfl | rfl | rfl | rfl | rfl | rfl | rfl | rfl | rfl | rfl | rfl | rfl | rfl | rfl | rfl | rfl | rfl | rfl | rfl | rfl
  · exact w_c0
  · exact w_c1
  · exact w_c2
  · exact w_c3
  · exact w_c4
  · exact w_c5
  · exact w_c6
  · exact w_c7
  · exact w_c8
  · exact w_c9
  · exact w_c10
  · exact w_c11
  · exact w_c12
  · exact w_c13
  · exact w_c14
  · exact w_c15
  · exact w_c16
  · exact w_c17
  · exact w_c18
  · exact w_c19
  · exact w_c20
  · exact w_c21
  · exact w_c22
  · exact w_c23
set_option maxRecDepth 65536 in
theorem w_t1 : (words1.take 24).all (fun c => isCode c || c.before args0 about1) = true := by decide +kernel
set_option maxRecDepth 65536 in
theorem w_t2 : ((words1.drop 24).take 24).all (fun c => isCode c || c.before args0 about1) = true := by decide +kernel
set_option maxRecDepth 65536 in
theorem w_t3 : (((words1.drop 24).drop 24).take 24).all (fun c => isCode c || c.before args0 about1) = true := by decide +kernel
set_option maxRecDepth 65536 in
theorem w_t4 : ((((words1.drop 24).drop 24).drop 24).take 24).all (fun c => isCode c || c.before args0 about1) = true := by decide +kernel
set_option maxRecDepth 65536 in
theorem w_t5 : (((((words1.drop 24).drop 24).drop 24).drop 24).take 24).all (fun c => isCode c || c.before args0 about1) = true := by decide +kernel
set_option maxRecDepth 65536 in
theorem w_t6 : (((((words1.drop 24).drop 24).drop 24).drop 24).drop 24).all (fun c => isCode c || c.before args0 about1) = true := by decide +kernel
theorem w_tables : (allAtoms (Jvm.Cond.code x code maxLocals ret :: tables_1)).before args0 about1 = true := by
  rw [allAtoms_all]
  show words1.all (fun c => c.before args0 about1) = true
  refine all_split ?_ w_codes
  rw [← List.take_append_drop 24 words1, List.all_append, w_t1, ← List.take_append_drop 24 (words1.drop 24), List.all_append, w_t2, ← List.take_append_drop 24 ((words1.drop 24).drop 24), List.all_append, w_t3, ← List.take_append_drop 24 (((words1.drop 24).drop 24).drop 24), List.all_append, w_t4, ← List.take_append_drop 24 ((((words1.drop 24).drop 24).drop 24).drop 24), List.all_append, w_t5, w_t6]
  rfl
set_option maxRecDepth 65536 in
theorem w_case : (Jvm.Cond.and given_1 narrow_1).before args0 about1 = true := by decide +kernel
theorem w_applies : (headSpec (Jvm.Cond.code x code maxLocals ret :: tables_1) room_1).applies x e0.platform about1 = true :=
  (Spec.applies_iff w_frames).mpr ⟨w_running, w_runnable, w_alone, w_named, w_hears, w_ripe, w_room, w_tables⟩
theorem atStart : AtStart classFile x code maxLocals ret World_1 tables_1 room_1 Calls_1 rest_1 Pre_1 launch0 p0 e0 about1 theMethod args0 below0 :=
  ⟨lists_1, trivial, launch0.admits_env _ _ _, launch0.least_env, fairChoices_fair.cas, fairChoices_fair.clock, w_frames, w_args, w_heap, w_applies, trivial, trivial, w_case⟩
end start1
theorem witness_1 : WitnessClaimed_1 := ⟨start1.p0, start1.e0, start1.about1, start1.theMethod, start1.args0, start1.below0, start1.atStart⟩
end Jvm.Pilot.@@N@@
