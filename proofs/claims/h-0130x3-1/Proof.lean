import JvmDerived
import JvmDerived.Pilot.@@N@@Statement
import JvmDerived.Pilot.@@N@@Code
set_option linter.unusedVariables false
set_option linter.unusedSimpArgs false
namespace Jvm.AM
open Sem ClassFile Op Lib Jvm.Stand Jvm.Free Jvm.LawKit Jvm.RoadKit
/-! ## 1. The abstract objects: one object of the class, its scalars and its arrays by number -/
abbrev S : Type := (Nat → Int32) × (Nat → Int64) × (Nat → List Int32) × (Nat → List Int64)
def upd {A : Type} (g : Nat → A) (f : Nat) (v : A) : Nat → A := fun x => if x = f then v else g x
def gI (s : S) (f : Nat) : Int32 := s.1 f
def gL (s : S) (f : Nat) : Int64 := s.2.1 f
def gA (s : S) (f : Nat) : List Int32 := s.2.2.1 f
def gB (s : S) (f : Nat) : List Int64 := s.2.2.2 f
def sI (s : S) (f : Nat) (v : Int32) : S := (upd s.1 f v, s.2)
def sL (s : S) (f : Nat) (v : Int64) : S := (s.1, upd s.2.1 f v, s.2.2)
def sA (s : S) (f : Nat) (v : List Int32) : S := (s.1, s.2.1, upd s.2.2.1 f v, s.2.2.2)
def sB (s : S) (f : Nat) (v : List Int64) : S := (s.1, s.2.1, s.2.2.1, upd s.2.2.2 f v)
def s0 : S := (fun _ => 0, fun _ => 0, fun _ => [], fun _ => [])
theorem gI_s0 (f : Nat) : gI s0 f = 0 := by simp only [gI, s0]
theorem gL_s0 (f : Nat) : gL s0 f = 0 := by simp only [gL, s0]
theorem gA_s0 (f : Nat) : gA s0 f = [] := by simp only [gA, s0]
theorem gB_s0 (f : Nat) : gB s0 f = [] := by simp only [gB, s0]
theorem gI_sI (s : S) (f g : Nat) (v : Int32) : gI (sI s f v) g = if g = f then v else gI s g := by simp only [gI, gL, gA, gB, sI, sL, sA, sB, upd]
theorem gI_sL (s : S) (f g : Nat) (v : Int64) : gI (sL s f v) g = gI s g := by simp only [gI, gL, gA, gB, sI, sL, sA, sB, upd]
theorem gI_sA (s : S) (f g : Nat) (v : List Int32) : gI (sA s f v) g = gI s g := by simp only [gI, gL, gA, gB, sI, sL, sA, sB, upd]
theorem gI_sB (s : S) (f g : Nat) (v : List Int64) : gI (sB s f v) g = gI s g := by simp only [gI, gL, gA, gB, sI, sL, sA, sB, upd]
theorem gL_sI (s : S) (f g : Nat) (v : Int32) : gL (sI s f v) g = gL s g := by simp only [gI, gL, gA, gB, sI, sL, sA, sB, upd]
theorem gL_sL (s : S) (f g : Nat) (v : Int64) : gL (sL s f v) g = if g = f then v else gL s g := by simp only [gI, gL, gA, gB, sI, sL, sA, sB, upd]
theorem gL_sA (s : S) (f g : Nat) (v : List Int32) : gL (sA s f v) g = gL s g := by simp only [gI, gL, gA, gB, sI, sL, sA, sB, upd]
theorem gL_sB (s : S) (f g : Nat) (v : List Int64) : gL (sB s f v) g = gL s g := by simp only [gI, gL, gA, gB, sI, sL, sA, sB, upd]
theorem gA_sI (s : S) (f g : Nat) (v : Int32) : gA (sI s f v) g = gA s g := by simp only [gI, gL, gA, gB, sI, sL, sA, sB, upd]
theorem gA_sL (s : S) (f g : Nat) (v : Int64) : gA (sL s f v) g = gA s g := by simp only [gI, gL, gA, gB, sI, sL, sA, sB, upd]
theorem gA_sA (s : S) (f g : Nat) (v : List Int32) : gA (sA s f v) g = if g = f then v else gA s g := by simp only [gI, gL, gA, gB, sI, sL, sA, sB, upd]
theorem gA_sB (s : S) (f g : Nat) (v : List Int64) : gA (sB s f v) g = gA s g := by simp only [gI, gL, gA, gB, sI, sL, sA, sB, upd]
theorem gB_sI (s : S) (f g : Nat) (v : Int32) : gB (sI s f v) g = gB s g := by simp only [gI, gL, gA, gB, sI, sL, sA, sB, upd]
theorem gB_sL (s : S) (f g : Nat) (v : Int64) : gB (sL s f v) g = gB s g := by simp only [gI, gL, gA, gB, sI, sL, sA, sB, upd]
theorem gB_sA (s : S) (f g : Nat) (v : List Int32) : gB (sA s f v) g = gB s g := by simp only [gI, gL, gA, gB, sI, sL, sA, sB, upd]
theorem gB_sB (s : S) (f g : Nat) (v : List Int64) : gB (sB s f v) g = if g = f then v else gB s g := by simp only [gI, gL, gA, gB, sI, sL, sA, sB, upd]
def rep {A : Type} (n : Nat) (x : A) : List A := List.replicate n x
theorem rep_length {A : Type} (n : Nat) (x : A) : (rep n x).length = n := by simp only [rep, List.length_replicate]
theorem rep_get {A : Type} (n : Nat) (x : A) (k : Nat) : (rep n x)[k]? = if k < n then some x else none := by simp only [rep, List.getElem?_replicate]
theorem rep_set {A : Type} (n : Nat) (x : A) (k : Nat) : (rep n x).set k x = rep n x := by simp only [rep, List.set_replicate_self]
/-- reading and writing a component -/
def ix {A : Type} (l : List A) (j : Int32) : Option A := if j < 0 then none else l[j.toNatClampNeg]?
def st {A : Type} (l : List A) (j : Int32) (x : A) : Option (List A) := if j < 0 then none else if j.toNatClampNeg < l.length then some (l.set j.toNatClampNeg x) else none
/-- the world of a run: the script array, if there is one; the objects made so far, each with the number of arrays that it has been given -/
abbrev W : Type := Option (List Int32) × List (Nat × S)
/-- the class: name, slots, scalar fields (name, descriptor, type), array fields in the order of their making (name, descriptor, component type, most slots) -/
abbrev CI : Type := String × Nat × List (String × String × FieldType) × List (String × String × FieldType × Nat)
def cN (c : CI) : String := c.1
def cF (c : CI) : Nat := c.2.1
def cS (c : CI) : List (String × String × FieldType) := c.2.2.1
def cA (c : CI) : List (String × String × FieldType × Nat) := c.2.2.2
def cK (c : CI) : Nat := (cA c).length
/-- the program: the sheet's words, the class -/
abbrev PI : Type := List Jvm.Cond × CI
/-- a method: name, bytes, variables, return type, room, most objects, whether it makes cells, cells and slots at its start -/
abbrev Meth : Type := MethodName × ByteArray × Nat × Option FieldType × Room × Nat × Bool × Nat × Nat
def mY (M : Meth) : MethodName := M.1
def mB (M : Meth) : ByteArray := M.2.1
def mL (M : Meth) : Nat := M.2.2.1
def mT (M : Meth) : Option FieldType := M.2.2.2.1
def mR (M : Meth) : Room := M.2.2.2.2.1
def mN (M : Meth) : Nat := M.2.2.2.2.2.1
def mTop (M : Meth) : Bool := M.2.2.2.2.2.2.1
def mUC (M : Meth) : Nat := M.2.2.2.2.2.2.2.1
def mUS (M : Meth) : Nat := M.2.2.2.2.2.2.2.2
/-! ## 2. Abstract references: 0 the script; j + 1 the cell at b + j -/
def con (α b : Nat) : Value → Value
  | .ref 0 => .ref α
  | .ref (j + 1) => .ref (b + j)
  | v => v
def cs (α b : Nat) : Slot → Slot
  | .val v => .val (con α b v)
  | .unset => .unset
  | .second => .second
def cL (α b : Nat) (L : List Slot) : Array Slot := (L.map (cs α b)).toArray
def cV (α b : Nat) (l : List Value) : List Value := l.map (con α b)
theorem con_cat (α b : Nat) (v : Value) : (con α b v).category = v.category := by
  cases v <;> try rfl
  rename_i a; cases a <;> rfl
theorem con_ref (α b : Nat) (v : Value) : (con α b v).isRef = v.isRef := by
  cases v <;> try rfl
  rename_i a; cases a <;> rfl
theorem cL_get {α b : Nat} {L : List Slot} {k : Nat} {x : Slot} (h : L[k]? = some x) : (cL α b L)[k]? = some (cs α b x) := by
  simp [cL, List.getElem?_toArray, List.getElem?_map, h]
theorem cL_size (α b : Nat) (L : List Slot) : (cL α b L).size = L.length := by simp [cL]
theorem cV_sum (α b : Nat) (l : List Value) : ((cV α b l).map fun v => v.category).sum = (l.map fun v => v.category).sum := by
  simp [cV, List.map_map, Function.comp_def, con_cat]
theorem setAt_map {α b : Nat} {l l' : Array Slot} {i : Nat} {x : Slot} (h : setAt l i x = some l') : setAt (l.map (cs α b)) i (cs α b x) = some (l'.map (cs α b)) := by
  unfold setAt at h ⊢
  split at h
  · rename_i q
    cases h
    rw [if_pos (by simpa using q)]
    simp [Array.map_setIfInBounds]
  · cases h
theorem storeSelf_map {α b : Nat} {l l' : Array Slot} {i : Nat} {v : Value} (h : storeSelf l i v = some l') : storeSelf (l.map (cs α b)) i (con α b v) = some (l'.map (cs α b)) := by
  simp only [storeSelf, Option.bind_eq_bind, Option.bind_eq_some_iff] at h ⊢
  obtain ⟨l1, h1, h2⟩ := h
  refine ⟨l1.map (cs α b), setAt_map (x := .val v) h1, ?_⟩
  rw [con_cat]
  split at h2
  · rename_i q
    rw [if_pos q]
    obtain ⟨x, h3, h4⟩ := Option.bind_eq_some_iff.mp h2
    refine Option.bind_eq_some_iff.mpr ⟨cs α b x, by simp [h3], ?_⟩
    cases x with
    | unset => exact setAt_map (x := .second) h4
    | second => exact setAt_map (x := .second) h4
    | val old =>
      simp only [cs, con_cat] at h4 ⊢
      split at h4
      · rename_i q2
        rw [if_pos q2]
        obtain ⟨y, h5, h6⟩ := Option.bind_eq_some_iff.mp h4
        exact Option.bind_eq_some_iff.mpr ⟨_, setAt_map (x := .unset) h5, setAt_map (x := .second) h6⟩
      · rename_i q2
        rw [if_neg q2]
        exact setAt_map (x := .second) h4
  · rename_i q
    rw [if_neg q]
    cases h2; rfl
theorem store_map {α b : Nat} {l l' : Array Slot} {i : Nat} {v : Value} (h : storeLocals l i v = some l') : storeLocals (l.map (cs α b)) i (con α b v) = some (l'.map (cs α b)) := by
  simp only [storeLocals, Option.bind_eq_bind, Option.bind_eq_some_iff] at h ⊢
  obtain ⟨x, h1, h2⟩ := h
  refine ⟨cs α b x, by simp [h1], ?_⟩
  cases x with
  | unset => exact storeSelf_map h2
  | second =>
    obtain ⟨y, h3, h4⟩ := Option.bind_eq_some_iff.mp h2
    exact Option.bind_eq_some_iff.mpr ⟨_, setAt_map (x := .unset) h3, storeSelf_map h4⟩
  | val old =>
    simp only [cs, con_cat] at h2 ⊢
    split at h2
    · rename_i q
      rw [if_pos q]
      obtain ⟨y, h3, h4⟩ := Option.bind_eq_some_iff.mp h2
      exact Option.bind_eq_some_iff.mpr ⟨_, setAt_map (x := .unset) h3, storeSelf_map h4⟩
    · rename_i q
      rw [if_neg q]
      exact storeSelf_map h2
theorem storeC {α b : Nat} {L L' : List Slot} {i : Nat} {v : Value} (h : storeLocals L.toArray i v = some L'.toArray) : storeLocals (cL α b L) i (con α b v) = some (cL α b L') := by
  have := store_map (α := α) (b := b) h
  simpa [cL] using this
theorem setAt_size {l l' : Array Slot} {i : Nat} {x : Slot} (h : setAt l i x = some l') : l'.size = l.size := by
  unfold setAt at h; split at h <;> cases h; simp
theorem storeSelf_size {l l' : Array Slot} {i : Nat} {v : Value} (h : storeSelf l i v = some l') : l'.size = l.size := by
  simp only [storeSelf, Option.bind_eq_bind, Option.bind_eq_some_iff] at h
  obtain ⟨l1, h1, h2⟩ := h
  have e1 := setAt_size h1
  split at h2
  · obtain ⟨x, h3, h4⟩ := Option.bind_eq_some_iff.mp h2
    cases x with
    | unset => exact (setAt_size h4).trans e1
    | second => exact (setAt_size h4).trans e1
    | val old =>
      dsimp only at h4
      split at h4
      · obtain ⟨y, h5, h6⟩ := Option.bind_eq_some_iff.mp h4
        exact (setAt_size h6).trans ((setAt_size h5).trans e1)
      · exact (setAt_size h4).trans e1
  · cases h2; exact e1
theorem store_size {l l' : Array Slot} {i : Nat} {v : Value} (h : storeLocals l i v = some l') : l'.size = l.size := by
  simp only [storeLocals, Option.bind_eq_bind, Option.bind_eq_some_iff] at h
  obtain ⟨x, h1, h2⟩ := h
  cases x with
  | unset => exact storeSelf_size h2
  | second =>
    obtain ⟨y, h3, h4⟩ := Option.bind_eq_some_iff.mp h2
    exact (storeSelf_size h4).trans (setAt_size h3)
  | val old =>
    dsimp only at h2
    split at h2
    · obtain ⟨y, h3, h4⟩ := Option.bind_eq_some_iff.mp h2
      exact (storeSelf_size h4).trans (setAt_size h3)
    · exact storeSelf_size h2
/-- a variable that may be written over by a value of one word -/
def k1 (o : Slot) : Prop := o = .unset ∨ ∃ w, o = .val w ∧ w.category = 1
def k2 (o o2 : Slot) : Prop := (o = .unset ∧ o2 = .unset) ∨ ∃ u, o = .val (.long u) ∧ o2 = .second
theorem setAt_l {L : List Slot} {k : Nat} {x : Slot} (h : k < L.length) : setAt L.toArray k x = some (L.set k x).toArray := by simp [setAt, h]
theorem get_l {L : List Slot} {k : Nat} {o : Slot} (h : L[k]? = some o) : L.toArray[k]? = some o := by rw [List.getElem?_toArray]; exact h
theorem store_u {L : List Slot} {k : Nat} {v : Value} (h : L[k]? = some .unset) : storeLocals L.toArray k v = storeSelf L.toArray k v := by
  simp only [storeLocals, Option.bind_eq_bind, get_l h, Option.bind_some]
theorem store_1 {L : List Slot} {k : Nat} {v w : Value} (h : L[k]? = some (.val w)) (hw : w.category = 1) : storeLocals L.toArray k v = storeSelf L.toArray k v := by
  simp only [storeLocals, Option.bind_eq_bind, get_l h, Option.bind_some]
  rw [if_neg (by rw [hw]; decide)]
theorem store_k {L : List Slot} {k : Nat} {v : Value} {o : Slot} (h : L[k]? = some o) (ho : k1 o) : storeLocals L.toArray k v = storeSelf L.toArray k v := by
  rcases ho with rfl | ⟨w, rfl, hw⟩
  · exact store_u h
  · exact store_1 h hw
theorem store_2 {L : List Slot} {k : Nat} {v w : Value} (h : L[k]? = some (.val w)) (hw : w.category = 2) (l2 : k + 1 < L.length) : storeLocals L.toArray k v = storeSelf (L.set (k + 1) .unset).toArray k v := by
  simp only [storeLocals, Option.bind_eq_bind, get_l h, Option.bind_some]
  rw [if_pos hw, setAt_l l2, Option.bind_some]
theorem self_1 {L : List Slot} {k : Nat} {v : Value} (hv : v.category = 1) (l : k < L.length) : storeSelf L.toArray k v = some (L.set k (.val v)).toArray := by
  simp only [storeSelf, Option.bind_eq_bind, setAt_l l, Option.bind_some]
  rw [if_neg (by rw [hv]; decide)]
theorem self_2 {L : List Slot} {k : Nat} {v : Value} {o : Slot} (hv : v.category = 2) (h : L[k + 1]? = some o) (ho : k1 o ∨ o = .second) (l : k < L.length) : storeSelf L.toArray k v = some ((L.set k (.val v)).set (k + 1) .second).toArray := by
  have l2 := (List.getElem?_eq_some_iff.mp h).1
  have e2 : (L.set k (.val v))[k + 1]? = some o := by rw [List.getElem?_set_ne (by omega)]; exact h
  simp only [storeSelf, Option.bind_eq_bind, setAt_l l, Option.bind_some]
  rw [if_pos hv, get_l e2, Option.bind_some]
  rcases ho with (rfl | ⟨w, rfl, hw⟩) | rfl
  · exact setAt_l (by rw [List.length_set]; exact l2)
  · dsimp only
    rw [if_neg (by rw [hw]; decide)]
    exact setAt_l (by rw [List.length_set]; exact l2)
  · exact setAt_l (by rw [List.length_set]; exact l2)
theorem self_3 {L : List Slot} {k : Nat} {v w : Value} (hv : v.category = 2) (h : L[k + 1]? = some (.val w)) (hw : w.category = 2) (l3 : k + 2 < L.length) (l : k < L.length) : storeSelf L.toArray k v = some (((L.set k (.val v)).set (k + 2) .unset).set (k + 1) .second).toArray := by
  have l2 := (List.getElem?_eq_some_iff.mp h).1
  have e2 : (L.set k (.val v))[k + 1]? = some (.val w) := by rw [List.getElem?_set_ne (by omega)]; exact h
  simp only [storeSelf, Option.bind_eq_bind, setAt_l l, Option.bind_some]
  rw [if_pos hv, get_l e2, Option.bind_some]
  dsimp only
  rw [if_pos hw, setAt_l (by rw [List.length_set]; exact l3), Option.bind_some, setAt_l (by rw [List.length_set, List.length_set]; exact l2)]
theorem stx {L : List Slot} {k : Nat} {o : Slot} {v : Value} (h : L[k]? = some o) (ho : k1 o) (hv : v.category = 1) : storeLocals L.toArray k v = some (L.set k (.val v)).toArray := by
  rw [store_k h ho, self_1 hv (List.getElem?_eq_some_iff.mp h).1]
theorem stx3 {L : List Slot} {k : Nat} {o o2 : Slot} {u : Int64} (h : L[k]? = some o) (h2 : L[k + 1]? = some o2) (ho : k1 o) (ho2 : k1 o2) : storeLocals L.toArray k (.long u) = some ((L.set k (.val (.long u))).set (k + 1) .second).toArray := by
  rw [store_k h ho, self_2 rfl h2 (Or.inl ho2) (List.getElem?_eq_some_iff.mp h).1]
theorem stx2 {L : List Slot} {k : Nat} {o o2 : Slot} {u : Int64} (h : L[k]? = some o) (h2 : L[k + 1]? = some o2) (ho : k2 o o2) : storeLocals L.toArray k (.long u) = some ((L.set k (.val (.long u))).set (k + 1) .second).toArray := by
  have l1 := (List.getElem?_eq_some_iff.mp h).1
  have l2 := (List.getElem?_eq_some_iff.mp h2).1
  rcases ho with ⟨rfl, rfl⟩ | ⟨u', rfl, rfl⟩
  · exact stx3 h h2 (Or.inl rfl) (Or.inl rfl)
  · rw [store_2 h rfl l2, self_2 (o := .unset) rfl (by rw [List.getElem?_set_self l2]) (Or.inl (Or.inl rfl)) (by rw [List.length_set]; exact l1)]
    rw [List.set_comm _ _ (show k + 1 ≠ k by omega), List.set_set]
theorem stx4 {L : List Slot} {k : Nat} {o2 : Slot} {w : Int64} {v : Value} (h : L[k]? = some (.val (.long w))) (h2 : L[k + 1]? = some o2) (hv : v.category = 1) : storeLocals L.toArray k v = some ((L.set (k + 1) .unset).set k (.val v)).toArray := by
  rw [store_2 h rfl (List.getElem?_eq_some_iff.mp h2).1, self_1 hv (by rw [List.length_set]; exact (List.getElem?_eq_some_iff.mp h).1)]
theorem stx5 {L : List Slot} {k : Nat} {o o3 : Slot} {w u : Int64} (h : L[k]? = some o) (ho : k1 o) (h2 : L[k + 1]? = some (.val (.long w))) (h3 : L[k + 2]? = some o3) : storeLocals L.toArray k (.long u) = some (((L.set k (.val (.long u))).set (k + 2) .unset).set (k + 1) .second).toArray := by
  rw [store_k h ho, self_3 rfl h2 rfl (List.getElem?_eq_some_iff.mp h3).1 (List.getElem?_eq_some_iff.mp h).1]
/-- a tail of dead variables -/
def wtf : Slot ⊕ Int64 → List Slot
  | .inl x => [x]
  | .inr u => [.val (.long u), .second]
def WT (D : List Slot) : Prop := ∃ l : List (Slot ⊕ Int64), D = l.flatMap wtf ∧ ∀ x, Sum.inl x ∈ l → k1 x
theorem wt0 : WT [] := ⟨[], rfl, fun _ h => nomatch h⟩
theorem wt1 {x : Slot} {D : List Slot} (h : k1 x) (W : WT D) : WT (x :: D) := by
  obtain ⟨l, rfl, g⟩ := W
  refine ⟨.inl x :: l, by simp [wtf], fun y hy => ?_⟩
  rcases List.mem_cons.mp hy with e | e
  · cases e; exact h
  · exact g y e
theorem wt2 {u : Int64} {D : List Slot} (W : WT D) : WT (.val (.long u) :: .second :: D) := by
  obtain ⟨l, rfl, g⟩ := W
  refine ⟨.inr u :: l, by simp [wtf], fun y hy => ?_⟩
  rcases List.mem_cons.mp hy with e | e
  · cases e
  · exact g y e
theorem wt12 {x y : Slot} {D : List Slot} (h : k2 x y) (W : WT D) : WT (x :: y :: D) := by
  rcases h with ⟨rfl, rfl⟩ | ⟨u, rfl, rfl⟩
  · exact wt1 (Or.inl rfl) (wt1 (Or.inl rfl) W)
  · exact wt2 W
theorem wt_cases {D : List Slot} (W : WT D) : D = [] ∨ (∃ x E, D = x :: E ∧ k1 x ∧ WT E) ∨ ∃ u E, D = .val (.long u) :: .second :: E ∧ WT E := by
  obtain ⟨l, rfl, g⟩ := W
  match l, g with
  | [], _ => exact Or.inl rfl
  | .inl x :: r, g => exact Or.inr (Or.inl ⟨x, r.flatMap wtf, by simp [wtf], g x (List.mem_cons_self ..), r, rfl, fun y hy => g y (List.mem_cons_of_mem _ hy)⟩)
  | .inr u :: r, g => exact Or.inr (Or.inr ⟨u, r.flatMap wtf, by simp [wtf], r, rfl, fun y hy => g y (List.mem_cons_of_mem _ hy)⟩)
theorem stT {L0 D : List Slot} {v : Value} {n : Nat} (W : WT D) (hl : D.length = n + 1) (hv : v.category = 1) : ∃ D', WT D' ∧ D'.length = n ∧ storeLocals (L0 ++ D).toArray L0.length v = some (L0 ++ ([.val v] : List Slot) ++ D').toArray := by
  rcases wt_cases W with rfl | ⟨x, E, rfl, hx, WE⟩ | ⟨u, E, rfl, WE⟩
  · simp at hl
  · refine ⟨E, WE, by simpa using hl, ?_⟩
    rw [stx (o := x) (by simp) hx hv]; simp
  · refine ⟨.unset :: E, wt1 (Or.inl rfl) WE, by simpa using hl, ?_⟩
    rw [stx4 (w := u) (o2 := .second) (by simp) (by rw [List.getElem?_append_right (by omega)]; simp) hv]
    simp [List.set_append]
theorem stT2 {L0 D : List Slot} {u : Int64} {n : Nat} (W : WT D) (hl : D.length = n + 2) : ∃ D', WT D' ∧ D'.length = n ∧ storeLocals (L0 ++ D).toArray L0.length (.long u) = some (L0 ++ ([.val (.long u), .second] : List Slot) ++ D').toArray := by
  rcases wt_cases W with rfl | ⟨x, E, rfl, hx, WE⟩ | ⟨w, E, rfl, WE⟩
  · simp at hl
  · rcases wt_cases WE with rfl | ⟨y, F, rfl, hy, WF⟩ | ⟨w, F, rfl, WF⟩
    · simp at hl
    · refine ⟨F, WF, by simpa using hl, ?_⟩
      rw [stx3 (o := x) (o2 := y) (by simp) (by rw [List.getElem?_append_right (by omega)]; simp) hx hy]
      simp [List.set_append]
    · refine ⟨.unset :: F, wt1 (Or.inl rfl) WF, by simpa using hl, ?_⟩
      rw [stx5 (o := x) (w := w) (o3 := .second) (by simp) hx (by rw [List.getElem?_append_right (by omega)]; simp) (by rw [List.getElem?_append_right (by omega)]; simp)]
      simp [List.set_append]
  · refine ⟨E, WE, by simpa using hl, ?_⟩
    rw [stx2 (o := .val (.long w)) (o2 := .second) (by simp) (by rw [List.getElem?_append_right (by omega)]; simp) (Or.inr ⟨w, rfl, rfl⟩)]
    simp [List.set_append]
/-- the variables at a method's entry -/
def argL : List Value → List Slot
  | [] => []
  | v :: r => if v.category = 2 then .val v :: .second :: argL r else .val v :: argL r
def entryL (as : List Value) (n : Nat) : List Slot := argL as ++ List.replicate (n - (argL as).length) .unset
theorem argL_fold : ∀ (as : List Value) (acc : List Slot), as.foldl (fun acc v => if v.category = 2 then (acc.push (.val v)).push .second else acc.push (.val v)) acc.toArray = (acc ++ argL as).toArray
  | [], acc => by simp [argL]
  | v :: r, acc => by
    simp only [List.foldl_cons, argL]
    split
    · rename_i q
      rw [show ((acc.toArray.push (Slot.val v)).push Slot.second) = (acc ++ [Slot.val v, Slot.second]).toArray by simp, argL_fold r]
      simp
    · rename_i q
      rw [show (acc.toArray.push (Slot.val v)) = (acc ++ [Slot.val v]).toArray by simp, argL_fold r]
      simp
theorem argL_map (α b : Nat) : ∀ as : List Value, argL (cV α b as) = (argL as).map (cs α b)
  | [] => rfl
  | v :: r => by
    have ih := argL_map α b r
    simp only [cV, List.map_cons, argL, con_cat] at ih ⊢
    split <;> simp [ih, cs]
theorem entry_locals (α b : Nat) (as : List Value) (n : Nat) : argsToLocals (cV α b as).toArray n = cL α b (entryL as n) := by
  have h := argL_fold (cV α b as) []
  simp only [List.nil_append] at h
  have h' : (cV α b as).toArray.foldl (fun acc v => if v.category = 2 then (acc.push (Slot.val v)).push Slot.second else acc.push (Slot.val v)) #[] = (argL (cV α b as)).toArray := by
    rw [← h]; simp
  simp only [argsToLocals]
  rw [h', argL_map]
  simp [cL, entryL, List.map_append, cs]
/-! ## 3. What the heap shows -/
def scV (ty : FieldType) (s : S) (f : Nat) : Value := match ty with
  | .long => .long (gL s f)
  | _ => .int (gI s f)
def arV (ty : FieldType) (s : S) (q : Nat) : List Value := match ty with
  | .long => (gB s q).map .long
  | _ => (gA s q).map .int
def Ar (Z : State) (h : Heap) (a : Nat) (ty : FieldType) (vs : List Value) : Prop := ∃ c : Cell, Arr Z h a c ty ∧ c.slots = vs.toArray
def Rep1 (Z : State) (ci : CI) (h : Heap) (b : Nat) (o : Nat × S) : Prop :=
  Exa Z h b (cN ci) ∧ (∀ f x, (cS ci)[f]? = some x → Fld Z h b (cN ci) x.1 x.2.1 (scV x.2.2 o.2 f)) ∧
  (∀ q x, (cA ci)[q]? = some x → Fld Z h b (cN ci) x.1 x.2.1 (if q < o.1 then .ref (b + 1 + q) else .null)) ∧
  (∀ q x, (cA ci)[q]? = some x → q < o.1 → Ar Z h (b + 1 + q) x.2.2.1 (arV x.2.2.1 o.2 q))
def RepW (Z : State) (ci : CI) (α b : Nat) (w : W) (h : Heap) : Prop :=
  (∀ l, w.1 = some l → Ar Z h α .int (l.map .int) ∧ α < b) ∧ ∀ i o, w.2[i]? = some o → Rep1 Z ci h (b + (cK ci + 1) * i) o
def Frm (lo hi : Nat) (h0 h : Heap) : Prop := ∀ (x : Nat) (c : Cell), h0[x]? = some c → (x < lo ∨ hi ≤ x) → h[x]? = some c
def usedC (w : W) : Nat := (w.2.map fun o => 1 + o.1).sum
def usedS (ci : CI) (w : W) : Nat := (w.2.map fun o => cF ci + (((cA ci).take o.1).map fun x => x.2.2.2).sum).sum
/-- what the sheet says of the class -/
def Facts (Z : State) (a0 : Array Value) (ci : CI) : Prop :=
  (Jvm.Cond.instantiable (cN ci) (cF ci)).before a0 Z = true ∧ (Jvm.Cond.initialized (cN ci)).before a0 Z = true ∧
  (∀ (f : Nat) (x : String × String × FieldType), (cS ci)[f]? = some x → Laid Z a0 (cN ci) (cN ci) x.1 x.2.1 ∧ parseFieldDescriptor x.2.1 = some x.2.2) ∧
  (∀ (q : Nat) (x : String × String × FieldType × Nat), (cA ci)[q]? = some x → Laid Z a0 (cN ci) (cN ci) x.1 x.2.1 ∧ parseFieldDescriptor x.2.1 = some (.array x.2.2.1)) ∧
  ((cS ci).map (fun x => x.1) ++ (cA ci).map (fun x => x.1)).Nodup ∧ (∀ f x, (cS ci)[f]? = some x → defaultValue x.2.2 = scV x.2.2 s0 f) ∧ (cN ci ≠ "java/lang/invoke/MethodHandle" ∧ cN ci ≠ "java/lang/invoke/VarHandle")
theorem nq {a b : Nat} (h : a ≠ b) : @Ne Addr a b := h
theorem Ar.frm {Z : State} {h h' : Heap} {a : Nat} {ty : FieldType} {vs : List Value} (A : Ar Z h a ty vs) (k : ∀ c, h[a]? = some c → h'[a]? = some c) : Ar Z h' a ty vs := by
  obtain ⟨c, ⟨q1, q2⟩, q3⟩ := A; exact ⟨c, ⟨k c q1, q2⟩, q3⟩
theorem fld_frm {Z : State} {h h' : Heap} {a : Nat} {C n d : String} {v : Value} (F : Fld Z h a C n d v) (k : ∀ c, h[a]? = some c → h'[a]? = some c) : Fld Z h' a C n d v := by
  obtain ⟨cell, cf, kc, i, f, h1, r⟩ := F; exact ⟨cell, cf, kc, i, f, k _ h1, r⟩
theorem exa_frm {Z : State} {h h' : Heap} {a : Nat} {C : String} (F : Exa Z h a C) (k : ∀ c, h[a]? = some c → h'[a]? = some c) : Exa Z h' a C := by
  obtain ⟨cell, kc, h1, r⟩ := F; exact ⟨cell, kc, k _ h1, r⟩
theorem get_lt {A : Type} {l : List A} {i : Nat} {x : A} (h : l[i]? = some x) : i < l.length := (List.getElem?_eq_some_iff.mp h).1
theorem Rep1.frm {Z : State} {ci : CI} {h h' : Heap} {b : Nat} {o : Nat × S} (F : Rep1 Z ci h b o) (k : ∀ x c, b ≤ x → x < b + (cK ci + 1) → h[x]? = some c → h'[x]? = some c) : Rep1 Z ci h' b o := by
  obtain ⟨f1, f2, f3, f4⟩ := F
  refine ⟨exa_frm f1 fun c => k b c (Nat.le_refl _) (by omega), fun f x hx => fld_frm (f2 f x hx) fun c => k b c (Nat.le_refl _) (by omega), fun q x hx => fld_frm (f3 q x hx) fun c => k b c (Nat.le_refl _) (by omega), fun q x hx hq => (f4 q x hx hq).frm fun c => k _ c (by omega) ?_⟩
  have := get_lt hx
  simp only [cK]; omega
theorem RepW.ext {Z : State} {ci : CI} {α b : Nat} {w : W} {h h' : Heap} (F : RepW Z ci α b w h) (E : Ext h h') : RepW Z ci α b w h' :=
  ⟨fun l hl => ⟨((F.1 l hl).1).frm fun c q => E.2 _ _ q, (F.1 l hl).2⟩, fun i o ho => (F.2 i o ho).frm fun x c _ _ q => E.2 _ _ q⟩
theorem Frm.refl (lo hi : Nat) (h : Heap) : Frm lo hi h h := fun _ _ q _ => q
theorem Frm.trans {lo hi : Nat} {h0 h1 h2 : Heap} (A : Frm lo hi h0 h1) (B : Frm lo hi h1 h2) : Frm lo hi h0 h2 := fun x c q r => B x c (A x c q r) r
theorem Frm.wide {lo hi lo' hi' : Nat} {h0 h1 : Heap} (A : Frm lo hi h0 h1) (q1 : lo' ≤ lo) (q2 : hi ≤ hi') : Frm lo' hi' h0 h1 := fun x c q r => A x c q (by omega)
theorem Frm.ext {lo hi : Nat} {h0 h1 h2 : Heap} (A : Frm lo hi h0 h1) (E : Ext h1 h2) : Frm lo hi h0 h2 := fun x c q r => E.2 _ _ (A x c q r)
theorem Frm.wr {lo hi : Nat} {h0 h1 h2 : Heap} {a : Nat} {sl : Nat} {v : Value} (A : Frm lo hi h0 h1) (Wt : Wr h1 h2 a sl v) (q1 : lo ≤ a) (q2 : a < hi) : Frm lo hi h0 h2 := fun x c q r => by
  have q3 := A x c q r
  obtain ⟨c', e1, -, -, -, e5, -⟩ := wr_at Wt q3
  have : x ≠ a := by omega
  rw [← e5 this]; exact e1
/-! ## 4. The walk -/
def Ok (P : PI) (M : Meth) (Z : State) (a0 : Array Value) (p : Program) (R : Room) (s : State) (m : MethodId) (meth : Method) (c : Code) (b n0 : Nat) (h0 : Heap) (uC uS : Nat) : Prop :=
  (∀ d ∈ P.1, d.before a0 Z = true) ∧ Facts Z a0 P.2 ∧ p.tables.exec = Jvm.exec ∧ Z.Warmed39 s.vm ∧ s.vm.findClass (mY M).cls = some m.cls ∧ c.code = mB M ∧ c.maxLocals = mL M ∧ meth.sig.returnType = mT M ∧ meth.name = (mY M).name ∧ R = mR M ∧ n0 ≤ b ∧
  (mTop M = true → h0.size = b + uC ∧ uC = mUC M ∧ uS = mUS M) ∧ s.heap.size = h0.size
def Inv (P : PI) (M : Meth) (l : Launch) (Z : State) (p : Program) (e : Env) (R : Room) (s : State) (m : MethodId) (args : Array Value) (below : List Frame) (meth : Method) (c : Code) (α b n0 : Nat) (h0 : Heap) (uC uS : Nat) (w : W) (T : State) (locs : List Loc) (cells slots : Nat) : Prop :=
  Stand p l e R s m args below meth c T locs cells slots ∧ RepW Z P.2 α b w T.heap ∧ Frm b (b + (cK P.2 + 1) * mN M) h0 T.heap ∧ Fr n0 locs ∧ T.heap.size = h0.size + cells ∧ cells + uC = usedC w ∧ slots + uS = usedS P.2 w ∧ cells ≤ R.cells ∧ slots ≤ R.slots ∧ w.2.length ≤ mN M
def Lv (e : Env) (T : State) (m : MethodId) (r : Option Value) (fs : List Frame) : Prop := ∀ (f : JFrame) (acts : List Action), f.method = m → f.locked = none → f.entered = [] → (doReturn e (T.setTop f) acts r).1 = T.setFrames fs
/-- from here the invocation comes to its end, with this value and this world -/
def Go (P : PI) (M : Meth) (pc : Nat) (L : List Slot) (st : List Value) (w : W) (out : Option Value × W) : Prop :=
  L.length = mL M → ∀ (l : Launch) (Z : State) (a0 : Array Value) (p : Program) (e : Env) (R : Room) (s : State) (m : MethodId) (args : Array Value) (below : List Frame) (meth : Method) (c : Code) (α b n0 : Nat) (h0 : Heap) (uC uS : Nat),
    Ok P M Z a0 p R s m meth c b n0 h0 uC uS → ∀ (T : State) (locs : List Loc) (cells slots : Nat), Inv P M l Z p e R s m args below meth c α b n0 h0 uC uS w T locs cells slots →
    ∃ (T' : State) (locs' : List Loc) (cells' slots' : Nat), Inv P M l Z p e R s m args below meth c α b n0 h0 uC uS out.2 T' locs' cells' slots' ∧
      ∀ fs, Lv e T' m (out.1.map (con α b)) fs → Steps p.tables e below (T.setTop (mkF m pc (cL α b L) (cV α b st))) (T'.setFrames fs)
section Rules
variable {P : PI} {M : Meth} {pc pc' : Nat} {L L' : List Slot} {st st' : List Value} {w w' : W} {out : Option Value × W} {x y z v : Int32} {u r : Int64}
theorem go_mv (hL : L.length = mL M → L'.length = mL M)
    (H : ∀ {p : Program} {e : Env} {below : List Frame} {T target : State} {m : MethodId} {c : Code}, At T m c below → p.tables.exec = Jvm.exec → c.code = mB M → ∀ α b : Nat, Steps p.tables e below (T.setTop (mkF m pc' (cL α b L') (cV α b st'))) target → Steps p.tables e below (T.setTop (mkF m pc (cL α b L) (cV α b st))) target)
    (k : Go P M pc' L' st' w out) : Go P M pc L st w out := by
  intro hl l Z a0 p e R s m args below meth c α b n0 h0 uC uS ok T locs cells slots I
  obtain ⟨T', l', c', n', I', fin⟩ := k (hL hl) l Z a0 p e R s m args below meth c α b n0 h0 uC uS ok T locs cells slots I
  exact ⟨T', l', c', n', I', fun fs hv => H I.1.here ok.2.2.1 ok.2.2.2.2.2.1 α b (fin fs hv)⟩
theorem go_ch (H : ∀ (l : Launch) (Z : State) (a0 : Array Value) (p : Program) (e : Env) (R : Room) (s : State) (m : MethodId) (args : Array Value) (below : List Frame) (meth : Method) (c : Code) (α b n0 : Nat) (h0 : Heap) (uC uS : Nat),
      Ok P M Z a0 p R s m meth c b n0 h0 uC uS → L.length = mL M → ∀ (T : State) (locs : List Loc) (cells slots : Nat), Inv P M l Z p e R s m args below meth c α b n0 h0 uC uS w T locs cells slots →
      ∃ (T' : State) (locs' : List Loc) (cells' slots' : Nat), Inv P M l Z p e R s m args below meth c α b n0 h0 uC uS w' T' locs' cells' slots' ∧
        ∀ target, Steps p.tables e below (T'.setTop (mkF m pc' (cL α b L) (cV α b st'))) target → Steps p.tables e below (T.setTop (mkF m pc (cL α b L) (cV α b st))) target)
    (k : Go P M pc' L st' w' out) : Go P M pc L st w out := by
  intro hl l Z a0 p e R s m args below meth c α b n0 h0 uC uS ok T locs cells slots I
  obtain ⟨T1, l1, c1, n1, I1, h1⟩ := H l Z a0 p e R s m args below meth c α b n0 h0 uC uS ok hl T locs cells slots I
  obtain ⟨T', l', c', n', I', fin⟩ := k hl l Z a0 p e R s m args below meth c α b n0 h0 uC uS ok T1 l1 c1 n1 I1
  exact ⟨T', l', c', n', I', fun fs hv => h1 _ (fin fs hv)⟩
/-! ### loads, stores, constants -/
theorem go_iloadN {k : Fin 4} (d : decode (mB M) pc = .ok (.iload_n k, 1)) (hl : L[k.val]? = some (.val (.int v))) (g : Go P M (pc + 1) L (.int v :: st) w out) : Go P M pc L (st) w out :=
  go_mv id (fun h hx hc α b r => XS.iloadN (g := mkF _ pc (cL α b L) (cV α b (st))) h hx rfl (hb hc d) (cL_get hl) r) g
theorem go_iload {k : Nat} (d : decode (mB M) pc = .ok (.iload k, 2)) (hl : L[k]? = some (.val (.int v))) (g : Go P M (pc + 2) L (.int v :: st) w out) : Go P M pc L (st) w out :=
  go_mv id (fun h hx hc α b r => XS.iload (g := mkF _ pc (cL α b L) (cV α b (st))) h hx rfl (hb hc d) (cL_get hl) r) g
theorem go_lloadN {k : Fin 4} (d : decode (mB M) pc = .ok (.lload_n k, 1)) (hl : L[k.val]? = some (.val (.long u))) (g : Go P M (pc + 1) L (.long u :: st) w out) : Go P M pc L (st) w out :=
  go_mv id (fun h hx hc α b r => XT.lloadN (g := mkF _ pc (cL α b L) (cV α b (st))) h hx rfl (hb hc d) (cL_get hl) r) g
theorem go_lload {k : Nat} (d : decode (mB M) pc = .ok (.lload k, 2)) (hl : L[k]? = some (.val (.long u))) (g : Go P M (pc + 2) L (.long u :: st) w out) : Go P M pc L (st) w out :=
  go_mv id (fun h hx hc α b r => XT.lload (g := mkF _ pc (cL α b L) (cV α b (st))) h hx rfl (hb hc d) (cL_get hl) r) g
theorem go_aloadN {k : Fin 4} {a : Nat} (d : decode (mB M) pc = .ok (.aload_n k, 1)) (hl : L[k.val]? = some (.val (.ref a))) (g : Go P M (pc + 1) L (.ref a :: st) w out) : Go P M pc L (st) w out :=
  go_mv id (fun h hx hc α b r => XS.aloadN (g := mkF _ pc (cL α b L) (cV α b (st))) h hx rfl (hb hc d) (cL_get hl) (con_ref α b (.ref a)) r) g
theorem go_aload {k : Nat} {a : Nat} (d : decode (mB M) pc = .ok (.aload k, 2)) (hl : L[k]? = some (.val (.ref a))) (g : Go P M (pc + 2) L (.ref a :: st) w out) : Go P M pc L (st) w out :=
  go_mv id (fun h hx hc α b r => XS.aload (g := mkF _ pc (cL α b L) (cV α b (st))) h hx rfl (hb hc d) (cL_get hl) (con_ref α b (.ref a)) r) g
theorem go_istoreN {k : Fin 4} (d : decode (mB M) pc = .ok (.istore_n k, 1)) (hl : storeLocals L.toArray k.val (.int x) = some L'.toArray) (g : Go P M (pc + 1) L' (st) w out) : Go P M pc L (.int x :: st) w out :=
  go_mv (fun q => by have := store_size hl; simp at this; omega) (fun h hx hc α b r => XS.istoreN (g := mkF _ pc (cL α b L) (cV α b (.int x :: st))) h hx rfl (hb hc d) rfl (storeC hl) r) g
theorem go_istore {k : Nat} (d : decode (mB M) pc = .ok (.istore k, 2)) (hl : storeLocals L.toArray k (.int x) = some L'.toArray) (g : Go P M (pc + 2) L' (st) w out) : Go P M pc L (.int x :: st) w out :=
  go_mv (fun q => by have := store_size hl; simp at this; omega) (fun h hx hc α b r => XS.istore (g := mkF _ pc (cL α b L) (cV α b (.int x :: st))) h hx rfl (hb hc d) rfl (storeC hl) r) g
theorem go_lstoreN {k : Fin 4} (d : decode (mB M) pc = .ok (.lstore_n k, 1)) (hl : storeLocals L.toArray k.val (.long u) = some L'.toArray) (g : Go P M (pc + 1) L' (st) w out) : Go P M pc L (.long u :: st) w out :=
  go_mv (fun q => by have := store_size hl; simp at this; omega) (fun h hx hc α b r => XT.lstoreN (g := mkF _ pc (cL α b L) (cV α b (.long u :: st))) h hx rfl (hb hc d) rfl (storeC hl) r) g
theorem go_lstore {k : Nat} (d : decode (mB M) pc = .ok (.lstore k, 2)) (hl : storeLocals L.toArray k (.long u) = some L'.toArray) (g : Go P M (pc + 2) L' (st) w out) : Go P M pc L (.long u :: st) w out :=
  go_mv (fun q => by have := store_size hl; simp at this; omega) (fun h hx hc α b r => XT.lstore (g := mkF _ pc (cL α b L) (cV α b (.long u :: st))) h hx rfl (hb hc d) rfl (storeC hl) r) g
theorem go_astoreN {k : Fin 4} {a : Nat} (d : decode (mB M) pc = .ok (.astore_n k, 1)) (hl : storeLocals L.toArray k.val (.ref a) = some L'.toArray) (g : Go P M (pc + 1) L' (st) w out) : Go P M pc L (.ref a :: st) w out :=
  go_mv (fun q => by have := store_size hl; simp at this; omega) (fun h hx hc α b r => XS.astoreN (g := mkF _ pc (cL α b L) (cV α b (.ref a :: st))) h hx rfl (hb hc d) rfl (con_ref α b (.ref a)) (storeC hl) r) g
theorem go_astore {k : Nat} {a : Nat} (d : decode (mB M) pc = .ok (.astore k, 2)) (hl : storeLocals L.toArray k (.ref a) = some L'.toArray) (g : Go P M (pc + 2) L' (st) w out) : Go P M pc L (.ref a :: st) w out :=
  go_mv (fun q => by have := store_size hl; simp at this; omega) (fun h hx hc α b r => XS.astore (g := mkF _ pc (cL α b L) (cV α b (.ref a :: st))) h hx rfl (hb hc d) rfl (con_ref α b (.ref a)) (storeC hl) r) g
theorem go_istoreNT {k : Fin 4} {L0 L1 D : List Slot} {n : Nat} (d : decode (mB M) pc = .ok (.istore_n k, 1)) (hk : k.val = L0.length) (h1 : L1 = L0 ++ [.val (.int x)]) (W : WT D) (hl : D.length = n + 1) (g : ∀ D', WT D' → D'.length = n → Go P M (pc + 1) (L1 ++ D') st w out) : Go P M pc (L0 ++ D) (.int x :: st) w out := by
  obtain ⟨D', W', l', e⟩ := stT (L0 := L0) (v := .int x) W hl rfl
  subst h1
  exact go_istoreN d (by rw [hk]; exact e) (g D' W' l')
theorem go_istoreT {k : Nat} {L0 L1 D : List Slot} {n : Nat} (d : decode (mB M) pc = .ok (.istore k, 2)) (hk : k = L0.length) (h1 : L1 = L0 ++ [.val (.int x)]) (W : WT D) (hl : D.length = n + 1) (g : ∀ D', WT D' → D'.length = n → Go P M (pc + 2) (L1 ++ D') st w out) : Go P M pc (L0 ++ D) (.int x :: st) w out := by
  obtain ⟨D', W', l', e⟩ := stT (L0 := L0) (v := .int x) W hl rfl
  subst h1
  exact go_istore d (by rw [hk]; exact e) (g D' W' l')
theorem go_astoreNT {k : Fin 4} {L0 L1 D : List Slot} {n : Nat} {a : Nat} (d : decode (mB M) pc = .ok (.astore_n k, 1)) (hk : k.val = L0.length) (h1 : L1 = L0 ++ [.val (.ref a)]) (W : WT D) (hl : D.length = n + 1) (g : ∀ D', WT D' → D'.length = n → Go P M (pc + 1) (L1 ++ D') st w out) : Go P M pc (L0 ++ D) (.ref a :: st) w out := by
  obtain ⟨D', W', l', e⟩ := stT (L0 := L0) (v := .ref a) W hl rfl
  subst h1
  exact go_astoreN d (by rw [hk]; exact e) (g D' W' l')
theorem go_astoreT {k : Nat} {L0 L1 D : List Slot} {n : Nat} {a : Nat} (d : decode (mB M) pc = .ok (.astore k, 2)) (hk : k = L0.length) (h1 : L1 = L0 ++ [.val (.ref a)]) (W : WT D) (hl : D.length = n + 1) (g : ∀ D', WT D' → D'.length = n → Go P M (pc + 2) (L1 ++ D') st w out) : Go P M pc (L0 ++ D) (.ref a :: st) w out := by
  obtain ⟨D', W', l', e⟩ := stT (L0 := L0) (v := .ref a) W hl rfl
  subst h1
  exact go_astore d (by rw [hk]; exact e) (g D' W' l')
theorem go_lstoreNT {k : Fin 4} {L0 L1 D : List Slot} {n : Nat} (d : decode (mB M) pc = .ok (.lstore_n k, 1)) (hk : k.val = L0.length) (h1 : L1 = L0 ++ [.val (.long u), .second]) (W : WT D) (hl : D.length = n + 2) (g : ∀ D', WT D' → D'.length = n → Go P M (pc + 1) (L1 ++ D') st w out) : Go P M pc (L0 ++ D) (.long u :: st) w out := by
  obtain ⟨D', W', l', e⟩ := stT2 (L0 := L0) (u := u) W hl
  subst h1
  exact go_lstoreN d (by rw [hk]; exact e) (g D' W' l')
theorem go_lstoreT {k : Nat} {L0 L1 D : List Slot} {n : Nat} (d : decode (mB M) pc = .ok (.lstore k, 2)) (hk : k = L0.length) (h1 : L1 = L0 ++ [.val (.long u), .second]) (W : WT D) (hl : D.length = n + 2) (g : ∀ D', WT D' → D'.length = n → Go P M (pc + 2) (L1 ++ D') st w out) : Go P M pc (L0 ++ D) (.long u :: st) w out := by
  obtain ⟨D', W', l', e⟩ := stT2 (L0 := L0) (u := u) W hl
  subst h1
  exact go_lstore d (by rw [hk]; exact e) (g D' W' l')
theorem go_iconst {i : Int} (d : decode (mB M) pc = .ok (.iconst i, 1)) (hv : v = Int32.ofInt i) (g : Go P M (pc + 1) L (.int v :: st) w out) : Go P M pc L (st) w out :=
  go_mv id (fun h hx hc α b r => XS.iconst (g := mkF _ pc (cL α b L) (cV α b (st))) h hx rfl (hb hc d) (hv ▸ r)) g
theorem go_bipush {i : Int} (d : decode (mB M) pc = .ok (.bipush i, 2)) (hv : v = (Int8.ofInt i).toInt32) (g : Go P M (pc + 2) L (.int v :: st) w out) : Go P M pc L (st) w out :=
  go_mv id (fun h hx hc α b r => XS.bipush (g := mkF _ pc (cL α b L) (cV α b (st))) h hx rfl (hb hc d) (hv ▸ r)) g
theorem go_sipush {i : Int} (d : decode (mB M) pc = .ok (.sipush i, 3)) (hv : v = (Int16.ofInt i).toInt32) (g : Go P M (pc + 3) L (.int v :: st) w out) : Go P M pc L (st) w out :=
  go_mv id (fun h hx hc α b r => XS.sipush (g := mkF _ pc (cL α b L) (cV α b (st))) h hx rfl (hb hc d) (hv ▸ r)) g
theorem go_lconst {i : Fin 2} (d : decode (mB M) pc = .ok (.lconst i, 1)) (hv : u = Int64.ofNat i) (g : Go P M (pc + 1) L (.long u :: st) w out) : Go P M pc L (st) w out :=
  go_mv id (fun h hx hc α b r => XT.lconst (g := mkF _ pc (cL α b L) (cV α b (st))) h hx rfl (hb hc d) (hv ▸ r)) g
theorem go_dup  (d : decode (mB M) pc = .ok (.dup, 1))  (g : Go P M (pc + 1) L (.int x :: .int x :: st) w out) : Go P M pc L (.int x :: st) w out :=
  go_mv id (fun h hx hc α b r => XS.dup (g := mkF _ pc (cL α b L) (cV α b (.int x :: st))) h hx rfl (hb hc d) rfl rfl r) g
theorem go_dupR {a : Nat} (d : decode (mB M) pc = .ok (.dup, 1))  (g : Go P M (pc + 1) L (.ref a :: .ref a :: st) w out) : Go P M pc L (.ref a :: st) w out :=
  go_mv id (fun h hx hc α b r => XS.dup (g := mkF _ pc (cL α b L) (cV α b (.ref a :: st))) h hx rfl (hb hc d) rfl (con_cat α b (.ref a)) r) g
theorem go_dup2 {a : Nat} (d : decode (mB M) pc = .ok (.dup2, 1))  (g : Go P M (pc + 1) L (.int x :: .ref a :: .int x :: .ref a :: st) w out) : Go P M pc L (.int x :: .ref a :: st) w out :=
  go_mv id (fun h hx hc α b r => XT.dup2 (g := mkF _ pc (cL α b L) (cV α b (.int x :: .ref a :: st))) h hx rfl (hb hc d) rfl rfl (con_cat α b (.ref a)) r) g
theorem go_dup2I  (d : decode (mB M) pc = .ok (.dup2, 1))  (g : Go P M (pc + 1) L (.int x :: .int y :: .int x :: .int y :: st) w out) : Go P M pc L (.int x :: .int y :: st) w out :=
  go_mv id (fun h hx hc α b r => XT.dup2 (g := mkF _ pc (cL α b L) (cV α b (.int x :: .int y :: st))) h hx rfl (hb hc d) rfl rfl rfl r) g
theorem go_dup2L  (d : decode (mB M) pc = .ok (.dup2, 1))  (g : Go P M (pc + 1) L (.long u :: .long u :: st) w out) : Go P M pc L (.long u :: st) w out :=
  go_mv id (fun h hx hc α b r => XT.dup2L (g := mkF _ pc (cL α b L) (cV α b (.long u :: st))) h hx rfl (hb hc d) rfl r) g
theorem go_pop  (d : decode (mB M) pc = .ok (.pop, 1))  (g : Go P M (pc + 1) L (st) w out) : Go P M pc L (.int x :: st) w out :=
  go_mv id (fun h hx hc α b r => XT.pop (g := mkF _ pc (cL α b L) (cV α b (.int x :: st))) h hx rfl (hb hc d) rfl rfl r) g
theorem go_iadd  (d : decode (mB M) pc = .ok (.iadd, 1))  (g : Go P M (pc + 1) L (.int (x + y) :: st) w out) : Go P M pc L (.int y :: .int x :: st) w out :=
  go_mv id (fun h hx hc α b r => XS.iadd (g := mkF _ pc (cL α b L) (cV α b (.int y :: .int x :: st))) h hx rfl (hb hc d) rfl r) g
theorem go_isub  (d : decode (mB M) pc = .ok (.isub, 1))  (g : Go P M (pc + 1) L (.int (x - y) :: st) w out) : Go P M pc L (.int y :: .int x :: st) w out :=
  go_mv id (fun h hx hc α b r => XS.isub (g := mkF _ pc (cL α b L) (cV α b (.int y :: .int x :: st))) h hx rfl (hb hc d) rfl r) g
theorem go_imul  (d : decode (mB M) pc = .ok (.imul, 1))  (g : Go P M (pc + 1) L (.int (x * y) :: st) w out) : Go P M pc L (.int y :: .int x :: st) w out :=
  go_mv id (fun h hx hc α b r => XS.imul (g := mkF _ pc (cL α b L) (cV α b (.int y :: .int x :: st))) h hx rfl (hb hc d) rfl r) g
theorem go_iand  (d : decode (mB M) pc = .ok (.iand, 1))  (g : Go P M (pc + 1) L (.int (x &&& y) :: st) w out) : Go P M pc L (.int y :: .int x :: st) w out :=
  go_mv id (fun h hx hc α b r => XS.iand (g := mkF _ pc (cL α b L) (cV α b (.int y :: .int x :: st))) h hx rfl (hb hc d) rfl r) g
theorem go_ior  (d : decode (mB M) pc = .ok (.ior, 1))  (g : Go P M (pc + 1) L (.int (x ||| y) :: st) w out) : Go P M pc L (.int y :: .int x :: st) w out :=
  go_mv id (fun h hx hc α b r => XT.ior (g := mkF _ pc (cL α b L) (cV α b (.int y :: .int x :: st))) h hx rfl (hb hc d) rfl r) g
theorem go_ixor  (d : decode (mB M) pc = .ok (.ixor, 1))  (g : Go P M (pc + 1) L (.int (x ^^^ y) :: st) w out) : Go P M pc L (.int y :: .int x :: st) w out :=
  go_mv id (fun h hx hc α b r => XT.ixor (g := mkF _ pc (cL α b L) (cV α b (.int y :: .int x :: st))) h hx rfl (hb hc d) rfl r) g
theorem go_ishl  (d : decode (mB M) pc = .ok (.ishl, 1))  (g : Go P M (pc + 1) L (.int (x <<< (y &&& 31)) :: st) w out) : Go P M pc L (.int y :: .int x :: st) w out :=
  go_mv id (fun h hx hc α b r => XT.ishl (g := mkF _ pc (cL α b L) (cV α b (.int y :: .int x :: st))) h hx rfl (hb hc d) rfl r) g
theorem go_ishr  (d : decode (mB M) pc = .ok (.ishr, 1))  (g : Go P M (pc + 1) L (.int (x >>> (y &&& 31)) :: st) w out) : Go P M pc L (.int y :: .int x :: st) w out :=
  go_mv id (fun h hx hc α b r => XT.ishr (g := mkF _ pc (cL α b L) (cV α b (.int y :: .int x :: st))) h hx rfl (hb hc d) rfl r) g
theorem go_iushr  (d : decode (mB M) pc = .ok (.iushr, 1))  (g : Go P M (pc + 1) L (.int (XT.ushr x y) :: st) w out) : Go P M pc L (.int y :: .int x :: st) w out :=
  go_mv id (fun h hx hc α b r => XT.iushr (g := mkF _ pc (cL α b L) (cV α b (.int y :: .int x :: st))) h hx rfl (hb hc d) rfl r) g
theorem go_idiv  (d : decode (mB M) pc = .ok (.idiv, 1)) (hy : y ≠ 0) (g : Go P M (pc + 1) L (.int (x / y) :: st) w out) : Go P M pc L (.int y :: .int x :: st) w out :=
  go_mv id (fun h hx hc α b r => XS.idiv (g := mkF _ pc (cL α b L) (cV α b (.int y :: .int x :: st))) h hx rfl (hb hc d) rfl hy r) g
theorem go_irem  (d : decode (mB M) pc = .ok (.irem, 1)) (hy : y ≠ 0) (g : Go P M (pc + 1) L (.int (x % y) :: st) w out) : Go P M pc L (.int y :: .int x :: st) w out :=
  go_mv id (fun h hx hc α b r => XS.irem (g := mkF _ pc (cL α b L) (cV α b (.int y :: .int x :: st))) h hx rfl (hb hc d) rfl hy (by rw [irem_eq_mod x y]; exact r)) g
theorem go_ineg  (d : decode (mB M) pc = .ok (.ineg, 1))  (g : Go P M (pc + 1) L (.int (-x) :: st) w out) : Go P M pc L (.int x :: st) w out :=
  go_mv id (fun h hx hc α b r => XS.ineg (g := mkF _ pc (cL α b L) (cV α b (.int x :: st))) h hx rfl (hb hc d) rfl r) g
theorem go_ladd  (d : decode (mB M) pc = .ok (.ladd, 1))  (g : Go P M (pc + 1) L (.long (u + r) :: st) w out) : Go P M pc L (.long r :: .long u :: st) w out :=
  go_mv id (fun h hx hc α b k => XT.ladd (g := mkF _ pc (cL α b L) (cV α b (.long r :: .long u :: st))) h hx rfl (hb hc d) rfl k) g
theorem go_lsub  (d : decode (mB M) pc = .ok (.lsub, 1))  (g : Go P M (pc + 1) L (.long (u - r) :: st) w out) : Go P M pc L (.long r :: .long u :: st) w out :=
  go_mv id (fun h hx hc α b k => XT.lsub (g := mkF _ pc (cL α b L) (cV α b (.long r :: .long u :: st))) h hx rfl (hb hc d) rfl k) g
theorem go_lmul  (d : decode (mB M) pc = .ok (.lmul, 1))  (g : Go P M (pc + 1) L (.long (u * r) :: st) w out) : Go P M pc L (.long r :: .long u :: st) w out :=
  go_mv id (fun h hx hc α b k => XT.lmul (g := mkF _ pc (cL α b L) (cV α b (.long r :: .long u :: st))) h hx rfl (hb hc d) rfl k) g
theorem go_land  (d : decode (mB M) pc = .ok (.land, 1))  (g : Go P M (pc + 1) L (.long (u &&& r) :: st) w out) : Go P M pc L (.long r :: .long u :: st) w out :=
  go_mv id (fun h hx hc α b k => XT.land (g := mkF _ pc (cL α b L) (cV α b (.long r :: .long u :: st))) h hx rfl (hb hc d) rfl k) g
theorem go_lor  (d : decode (mB M) pc = .ok (.lor, 1))  (g : Go P M (pc + 1) L (.long (u ||| r) :: st) w out) : Go P M pc L (.long r :: .long u :: st) w out :=
  go_mv id (fun h hx hc α b k => XT.lor (g := mkF _ pc (cL α b L) (cV α b (.long r :: .long u :: st))) h hx rfl (hb hc d) rfl k) g
theorem go_lxor  (d : decode (mB M) pc = .ok (.lxor, 1))  (g : Go P M (pc + 1) L (.long (u ^^^ r) :: st) w out) : Go P M pc L (.long r :: .long u :: st) w out :=
  go_mv id (fun h hx hc α b k => XT.lxor (g := mkF _ pc (cL α b L) (cV α b (.long r :: .long u :: st))) h hx rfl (hb hc d) rfl k) g
theorem go_lshl  (d : decode (mB M) pc = .ok (.lshl, 1))  (g : Go P M (pc + 1) L (.long (u <<< (y.toInt64 &&& 63)) :: st) w out) : Go P M pc L (.int y :: .long u :: st) w out :=
  go_mv id (fun h hx hc α b r => XT.lshl (g := mkF _ pc (cL α b L) (cV α b (.int y :: .long u :: st))) h hx rfl (hb hc d) rfl r) g
theorem go_lshr  (d : decode (mB M) pc = .ok (.lshr, 1))  (g : Go P M (pc + 1) L (.long (u >>> (y.toInt64 &&& 63)) :: st) w out) : Go P M pc L (.int y :: .long u :: st) w out :=
  go_mv id (fun h hx hc α b r => XT.lshr (g := mkF _ pc (cL α b L) (cV α b (.int y :: .long u :: st))) h hx rfl (hb hc d) rfl r) g
theorem go_lushr  (d : decode (mB M) pc = .ok (.lushr, 1))  (g : Go P M (pc + 1) L (.long (XT.ushrL u y) :: st) w out) : Go P M pc L (.int y :: .long u :: st) w out :=
  go_mv id (fun h hx hc α b r => XT.lushr (g := mkF _ pc (cL α b L) (cV α b (.int y :: .long u :: st))) h hx rfl (hb hc d) rfl r) g
theorem go_lcmp  (d : decode (mB M) pc = .ok (.lcmp, 1))  (g : Go P M (pc + 1) L (.int (XT.cmpL u r) :: st) w out) : Go P M pc L (.long r :: .long u :: st) w out :=
  go_mv id (fun h hx hc α b k => XT.lcmp (g := mkF _ pc (cL α b L) (cV α b (.long r :: .long u :: st))) h hx rfl (hb hc d) rfl k) g
theorem go_i2l  (d : decode (mB M) pc = .ok (.i2l, 1))  (g : Go P M (pc + 1) L (.long x.toInt64 :: st) w out) : Go P M pc L (.int x :: st) w out :=
  go_mv id (fun h hx hc α b r => XT.i2l (g := mkF _ pc (cL α b L) (cV α b (.int x :: st))) h hx rfl (hb hc d) rfl r) g
theorem go_l2i  (d : decode (mB M) pc = .ok (.l2i, 1))  (g : Go P M (pc + 1) L (.int u.toInt32 :: st) w out) : Go P M pc L (.long u :: st) w out :=
  go_mv id (fun h hx hc α b r => XT.l2i (g := mkF _ pc (cL α b L) (cV α b (.long u :: st))) h hx rfl (hb hc d) rfl r) g
theorem go_i2b  (d : decode (mB M) pc = .ok (.i2b, 1))  (g : Go P M (pc + 1) L (.int x.toInt8.toInt32 :: st) w out) : Go P M pc L (.int x :: st) w out :=
  go_mv id (fun h hx hc α b r => XT.i2b (g := mkF _ pc (cL α b L) (cV α b (.int x :: st))) h hx rfl (hb hc d) rfl r) g
theorem go_iinc {k : Nat} {i : Int} (d : decode (mB M) pc = .ok (.iinc k i, 3)) (h1 : L[k]? = some (.val (.int x))) (hv : v = Int32.ofInt i) (hl : storeLocals L.toArray k (.int (x + v)) = some L'.toArray) (g : Go P M (pc + 3) L' (st) w out) : Go P M pc L (st) w out :=
  by subst hv; exact go_mv (fun q => by have := store_size hl; simp at this; omega) (fun h hx hc α b r => XS.iinc (g := mkF _ pc (cL α b L) (cV α b (st))) h hx rfl (hb hc d) (cL_get h1) (storeC hl) r) g
theorem go_goto {o : Int} (d : decode (mB M) pc = .ok (.goto o, 3)) (hp : 0 ≤ (pc : Int) + o ∧ ((pc : Int) + o).toNat = pc') (g : Go P M pc' L (st) w out) : Go P M pc L (st) w out :=
  go_mv id (fun h hx hc α b r => XS.goto (g := mkF _ pc (cL α b L) (cV α b (st))) h hx rfl rfl (hb hc d) hp.1 hp.2 r) g
theorem go_ifY {cd : ClassFile.Cond} {o : Int} (d : decode (mB M) pc = .ok (.ifCond cd o, 3)) (hq : ifCond.holds cd x = true) (hp : 0 ≤ (pc : Int) + o ∧ ((pc : Int) + o).toNat = pc') (g : Go P M pc' L (st) w out) : Go P M pc L (.int x :: st) w out :=
  go_mv id (fun h hx hc α b r => XS.ifYes (g := mkF _ pc (cL α b L) (cV α b (.int x :: st))) h hx rfl rfl (hb hc d) rfl hq hp.1 hp.2 r) g
theorem go_ifN {cd : ClassFile.Cond} {o : Int} (d : decode (mB M) pc = .ok (.ifCond cd o, 3)) (hq : ifCond.holds cd x = false) (g : Go P M (pc + 3) L (st) w out) : Go P M pc L (.int x :: st) w out :=
  go_mv id (fun h hx hc α b r => XS.ifNo (g := mkF _ pc (cL α b L) (cV α b (.int x :: st))) h hx rfl (hb hc d) rfl hq r) g
theorem go_icY {cd : ClassFile.Cond} {o : Int} (d : decode (mB M) pc = .ok (.if_icmp cd o, 3)) (hq : if_icmp.holds cd x y = true) (hp : 0 ≤ (pc : Int) + o ∧ ((pc : Int) + o).toNat = pc') (g : Go P M pc' L (st) w out) : Go P M pc L (.int y :: .int x :: st) w out :=
  go_mv id (fun h hx hc α b r => XS.icmpYes (g := mkF _ pc (cL α b L) (cV α b (.int y :: .int x :: st))) h hx rfl rfl (hb hc d) rfl hq hp.1 hp.2 r) g
theorem go_icN {cd : ClassFile.Cond} {o : Int} (d : decode (mB M) pc = .ok (.if_icmp cd o, 3)) (hq : if_icmp.holds cd x y = false) (g : Go P M (pc + 3) L (st) w out) : Go P M pc L (.int y :: .int x :: st) w out :=
  go_mv id (fun h hx hc α b r => XS.icmpNo (g := mkF _ pc (cL α b L) (cV α b (.int y :: .int x :: st))) h hx rfl (hb hc d) rfl hq r) g
theorem go_nonnull {o : Int} (d : decode (mB M) pc = .ok (.ifnonnull o, 3)) (hp : 0 ≤ (pc : Int) + o ∧ ((pc : Int) + o).toNat = pc') (g : Go P M pc' L st w out) : Go P M pc L (.ref 0 :: st) w out :=
  go_mv id (fun h hx hc α b r => XT.ifnonnullYes (g := mkF _ pc (cL α b L) (cV α b (.ref 0 :: st))) (b := α) h hx rfl rfl (hb hc d) rfl hp.1 hp.2 r) g
theorem go_tswIn {dflt low high : Int} {offs : Array Int} {len : Nat} {o : Int} (d : decode (mB M) pc = .ok (.tableswitch dflt low high offs, len)) (hin : ¬ (x.toInt < low ∨ x.toInt > high)) (hoff : offs[(x.toInt - low).toNat]? = some o) (hp : 0 ≤ (pc : Int) + o ∧ ((pc : Int) + o).toNat = pc') (g : Go P M pc' L st w out) : Go P M pc L (.int x :: st) w out :=
  go_mv id (fun h hx hc α b r => XS.tswIn (g := mkF _ pc (cL α b L) (cV α b (.int x :: st))) h hx rfl rfl (hb hc d) rfl hin hoff hp.1 hp.2 r) g
theorem go_tswOut {dflt low high : Int} {offs : Array Int} {len : Nat} (d : decode (mB M) pc = .ok (.tableswitch dflt low high offs, len)) (hout : x.toInt < low ∨ x.toInt > high) (hp : 0 ≤ (pc : Int) + dflt ∧ ((pc : Int) + dflt).toNat = pc') (g : Go P M pc' L st w out) : Go P M pc L (.int x :: st) w out :=
  go_mv id (fun h hx hc α b r => XS.tswOut (g := mkF _ pc (cL α b L) (cV α b (.int x :: st))) h hx rfl rfl (hb hc d) rfl hout hp.1 hp.2 r) g
/-! ### constants of the pool -/
theorem go_ldc {k : Nat} (d : decode (mB M) pc = .ok (.ldc k, 2)) (hk : Jvm.Cond.constant (mY M).cls k v ∈ P.1) (g : Go P M (pc + 2) L (.int v :: st) w out) : Go P M pc L st w out :=
  go_ch (fun l Z a0 p e R s m args below meth c α b n0 h0 uC uS ok hl T locs cells slots I => ⟨T, locs, cells, slots, I, fun target r => Stand.ldcI (g := mkF m pc (cL α b L) (cV α b st)) I.1 ok.2.2.1 ok.2.2.2.2.1 (mvT ok.2.2.2.1 (ok.1 _ hk)) rfl (hb ok.2.2.2.2.2.1 d) r⟩) g
theorem go_ldcW {k : Nat} (d : decode (mB M) pc = .ok (.ldc_w k, 3)) (hk : Jvm.Cond.constant (mY M).cls k v ∈ P.1) (g : Go P M (pc + 3) L (.int v :: st) w out) : Go P M pc L st w out :=
  go_ch (fun l Z a0 p e R s m args below meth c α b n0 h0 uC uS ok hl T locs cells slots I => ⟨T, locs, cells, slots, I, fun target r => Stand.ldcWI (g := mkF m pc (cL α b L) (cV α b st)) I.1 ok.2.2.1 ok.2.2.2.2.1 (mvT ok.2.2.2.1 (ok.1 _ hk)) rfl (hb ok.2.2.2.2.2.1 d) r⟩) g
theorem go_ldc2 {k : Nat} (d : decode (mB M) pc = .ok (.ldc2_w k, 3)) (hk : Jvm.Cond.constantLong (mY M).cls k u ∈ P.1) (g : Go P M (pc + 3) L (.long u :: st) w out) : Go P M pc L st w out :=
  go_ch (fun l Z a0 p e R s m args below meth c α b n0 h0 uC uS ok hl T locs cells slots I => ⟨T, locs, cells, slots, I, fun target r => Stand.ldc2J (g := mkF m pc (cL α b L) (cV α b st)) I.1 ok.2.2.1 ok.2.2.2.2.1 (mvT ok.2.2.2.1 (ok.1 _ hk)) rfl (hb ok.2.2.2.2.2.1 d) r⟩) g
/-! ### returns -/
theorem go_iret (hT : mT M = some .int) (d : decode (mB M) pc = .ok (.ireturn, 1)) : Go P M pc L (.int x :: st) w (some (.int x), w) := by
  intro hl l Z a0 p e R s m args below meth c α b n0 h0 uC uS ok T locs cells slots I
  exact ⟨T, locs, cells, slots, I, fun fs hv => retOut I.1 ok.2.2.1 (t := .int) (ok.2.2.2.2.2.2.2.1.trans hT) rfl (Or.inl ⟨rfl, Or.inl rfl, x, rfl⟩) (hb ok.2.2.2.2.2.1 d) hv⟩
theorem go_zret (hT : mT M = some .boolean) (d : decode (mB M) pc = .ok (.ireturn, 1)) (hz : v = nar .boolean x) : Go P M pc L (.int x :: st) w (some (.int v), w) := by
  intro hl l Z a0 p e R s m args below meth c α b n0 h0 uC uS ok T locs cells slots I
  subst hz
  exact ⟨T, locs, cells, slots, I, fun fs hv => retN I.1 ok.2.2.1 (t := .boolean) (ok.2.2.2.2.2.2.2.1.trans hT) (Or.inl rfl) (hb ok.2.2.2.2.2.1 d) hv⟩
theorem go_lret (hT : mT M = some .long) (d : decode (mB M) pc = .ok (.lreturn, 1)) : Go P M pc L (.long u :: st) w (some (.long u), w) := by
  intro hl l Z a0 p e R s m args below meth c α b n0 h0 uC uS ok T locs cells slots I
  exact ⟨T, locs, cells, slots, I, fun fs hv => retOut I.1 ok.2.2.1 (t := .long) (ok.2.2.2.2.2.2.2.1.trans hT) rfl (Or.inr (Or.inl ⟨rfl, rfl, u, rfl⟩)) (hb ok.2.2.2.2.2.1 d) hv⟩
theorem go_ret (hT : mT M = none) (d : decode (mB M) pc = .ok (.return_, 1)) : Go P M pc L [] w (none, w) := by
  intro hl l Z a0 p e R s m args below meth c α b n0 h0 uC uS ok T locs cells slots I
  exact ⟨T, locs, cells, slots, I, fun fs hv => I.1.returnOut ok.2.2.1 (ok.2.2.2.2.2.2.2.1.trans hT) (hb ok.2.2.2.2.2.1 d) hv⟩
/-! ### fields -/
variable {o o' : Nat × S} {s : S} {k n : Nat}
theorem rep_one {Z : State} {ci : CI} {α b : Nat} {h : Heap} (F : RepW Z ci α b (none, [o]) h) : Rep1 Z ci h b o := by
  have := F.2 0 o rfl
  simpa using this
theorem rep_mk {Z : State} {ci : CI} {α b : Nat} {h : Heap} (F : Rep1 Z ci h b o) : RepW Z ci α b (none, [o]) h :=
  ⟨fun l hl => (nomatch hl), fun i o1 ho => by
    cases i with
    | zero => cases ho; simpa using F
    | succ i => simp at ho⟩
/-- the entry idx names the scalar field number f; of type ty -/
def FldS (P : PI) (idx f : Nat) (ty : FieldType) : Prop := ∃ nm ds, (cS P.2)[f]? = some (nm, ds, ty) ∧ Jvm.Cond.fieldLink (cN P.2) idx (cN P.2) nm ds ∈ P.1
def FldA (P : PI) (idx q : Nat) (ty : FieldType) : Prop := ∃ nm ds cap, (cA P.2)[q]? = some (nm, ds, ty, cap) ∧ Jvm.Cond.fieldLink (cN P.2) idx (cN P.2) nm ds ∈ P.1
theorem go_getV {idx f : Nat} {ty : FieldType} (F : FldS P idx f ty) (hM : (mY M).cls = cN P.2) (d : decode (mB M) pc = .ok (.getfield idx, 3)) {vv : Value} (hv : vv = scV ty s f) (hr : ∀ α b, con α b vv = vv) (g : Go P M (pc + 3) L (vv :: st) (none, [(k, s)]) out) : Go P M pc L (.ref 1 :: st) (none, [(k, s)]) out :=
  go_ch (fun l Z a0 p e R s1 m args below meth c α b n0 h0 uC uS ok hl T locs cells slots I => by
    obtain ⟨nm, ds, f1, f2⟩ := F
    obtain ⟨hw, fa, hx, hZ, hown, hc, hml, hret, hnm, hR, hn0, htop, hsz⟩ := ok
    obtain ⟨X, Rp, Fm, Nl, hs, u1, u2, c1, c2, hN⟩ := I
    have Fd := (rep_one Rp).2.1 f _ f1
    rw [hM] at hown
    obtain ⟨T', X', e', stp⟩ := getF X hx hZ hown (host := "") (Or.inl (hw _ f2)) Via.refl rfl Fd (g := mkF m pc (cL α b L) (cV α b (.ref 1 :: st))) rfl rfl (hb hc d)
    refine ⟨T', locs, cells, slots, ⟨X', by rw [e']; exact Rp, by rw [e']; exact Fm, Nl, by rw [e']; exact hs, u1, u2, c1, c2, hN⟩, fun target r => stp target ?_⟩
    rw [show cV α b (vv :: st) = con α b vv :: cV α b st from rfl, hr, hv] at r
    exact r) g
theorem go_getI {idx f : Nat} (F : FldS P idx f .int) (hM : (mY M).cls = cN P.2) (d : decode (mB M) pc = .ok (.getfield idx, 3)) (g : Go P M (pc + 3) L (.int (gI s f) :: st) (none, [(k, s)]) out) : Go P M pc L (.ref 1 :: st) (none, [(k, s)]) out :=
  go_getV F hM d rfl (fun _ _ => rfl) g
theorem go_getZ {idx f : Nat} (F : FldS P idx f .boolean) (hM : (mY M).cls = cN P.2) (d : decode (mB M) pc = .ok (.getfield idx, 3)) (g : Go P M (pc + 3) L (.int (gI s f) :: st) (none, [(k, s)]) out) : Go P M pc L (.ref 1 :: st) (none, [(k, s)]) out :=
  go_getV F hM d rfl (fun _ _ => rfl) g
theorem go_getJ {idx f : Nat} (F : FldS P idx f .long) (hM : (mY M).cls = cN P.2) (d : decode (mB M) pc = .ok (.getfield idx, 3)) (g : Go P M (pc + 3) L (.long (gL s f) :: st) (none, [(k, s)]) out) : Go P M pc L (.ref 1 :: st) (none, [(k, s)]) out :=
  go_getV F hM d rfl (fun _ _ => rfl) g
theorem go_getA {idx q : Nat} {ty : FieldType} (F : FldA P idx q ty) (hM : (mY M).cls = cN P.2) (d : decode (mB M) pc = .ok (.getfield idx, 3)) (hq : Nat.blt q k = true) (g : Go P M (pc + 3) L (.ref (q + 2) :: st) (none, [(k, s)]) out) : Go P M pc L (.ref 1 :: st) (none, [(k, s)]) out :=
  go_ch (fun l Z a0 p e R s1 m args below meth c α b n0 h0 uC uS ok hl T locs cells slots I => by
    obtain ⟨nm, ds, cap, f1, f2⟩ := F
    obtain ⟨hw, fa, hx, hZ, hown, hc, hml, hret, hnm, hR, hn0, htop, hsz⟩ := ok
    obtain ⟨X, Rp, Fm, Nl, hs, u1, u2, c1, c2, hN⟩ := I
    have Fd := (rep_one Rp).2.2.1 q _ f1
    rw [if_pos (show q < (k, s).1 by simpa [Nat.blt_eq] using hq)] at Fd
    rw [hM] at hown
    obtain ⟨T', X', e', stp⟩ := getF X hx hZ hown (host := "") (Or.inl (hw _ f2)) Via.refl rfl Fd (g := mkF m pc (cL α b L) (cV α b (.ref 1 :: st))) rfl rfl (hb hc d)
    refine ⟨T', locs, cells, slots, ⟨X', by rw [e']; exact Rp, by rw [e']; exact Fm, Nl, by rw [e']; exact hs, u1, u2, c1, c2, hN⟩, fun target r => stp target ?_⟩
    rw [show cV α b (.ref (q + 2) :: st) = .ref (b + (q + 1)) :: cV α b st from rfl] at r
    rw [show b + 1 + q = b + (q + 1) by omega]
    exact r) g
/-- another scalar of the object takes its value -/
theorem rep_put {Z : State} {a0 : Array Value} {ci : CI} {h h' : Heap} {b : Nat} {s s' : S} {k f : Nat} {nm ds : String} {ty : FieldType} {vv : Value} (fa : Facts Z a0 ci) (F : Rep1 Z ci h b (k, s)) (hf : (cS ci)[f]? = some (nm, ds, ty))
    (Wt : Wr h h' b (Jvm.RoadKit.slotOf Z (cN ci) nm ds) vv) (hv : vv = scV ty s' f) (ho : ∀ f' x, (cS ci)[f']? = some x → f' ≠ f → scV x.2.2 s' f' = scV x.2.2 s f') (ha : gA s' = gA s) (hbb : gB s' = gB s) : Rep1 Z ci h' b (k, s') := by
  obtain ⟨f1, f2, f3, f4⟩ := F
  obtain ⟨-, -, g1, g2, g3, -⟩ := fa
  have lt := get_lt hf
  refine ⟨f1.wr Wt, fun f' x hx => ?_, fun q x hx => ?_, fun q x hx hq => ?_⟩
  · by_cases e : f' = f
    · subst e
      cases hf.symm.trans hx
      show Fld Z h' b (cN ci) nm ds (scV ty s' f')
      rw [← hv]; exact (f2 f' _ hf).same Wt
    · have lt' := get_lt hx
      show Fld Z h' b (cN ci) x.1 x.2.1 (scV x.2.2 s' f')
      rw [ho f' x hx e]
      refine (f2 f' x hx).other Wt (Or.inr ?_)
      refine slot_ne (g1 f' x hx).1 (g1 f _ hf).1 ?_ (g1 f' x hx).2 (g1 f _ hf).2
      intro en
      have n1 : ((cS ci).map (fun x => x.1) ++ (cA ci).map (fun x => x.1))[f']? = some x.1 := by rw [List.getElem?_append_left (by simpa using lt')]; simp [hx]
      have n2 : ((cS ci).map (fun x => x.1) ++ (cA ci).map (fun x => x.1))[f]? = some nm := by rw [List.getElem?_append_left (by simpa using lt)]; simp [hf]
      rw [en] at n1
      obtain ⟨i1, j1⟩ := List.getElem?_eq_some_iff.mp n1
      obtain ⟨i2, j2⟩ := List.getElem?_eq_some_iff.mp n2
      exact e ((List.getElem_inj g3).mp (j1.trans j2.symm))
  · refine (f3 q x hx).other Wt (Or.inr ?_)
    have lt' := get_lt hx
    refine slot_ne (g2 q x hx).1 (g1 f _ hf).1 ?_ (g2 q x hx).2 (g1 f _ hf).2
    intro en
    have n1 : ((cS ci).map (fun x => x.1) ++ (cA ci).map (fun x => x.1))[(cS ci).length + q]? = some x.1 := by rw [List.getElem?_append_right (by simp)]; simp [hx]
    have n2 : ((cS ci).map (fun x => x.1) ++ (cA ci).map (fun x => x.1))[f]? = some nm := by rw [List.getElem?_append_left (by simpa using lt)]; simp [hf]
    rw [en] at n1
    obtain ⟨i1, j1⟩ := List.getElem?_eq_some_iff.mp n1
    obtain ⟨i2, j2⟩ := List.getElem?_eq_some_iff.mp n2
    have := (List.getElem_inj g3).mp (j1.trans j2.symm)
    omega
  · obtain ⟨c, A, e⟩ := f4 q x hx hq
    refine ⟨c, A.other Wt (nq (by omega)), e.trans ?_⟩
    show (arV x.2.2.1 s q).toArray = (arV x.2.2.1 s' q).toArray
    unfold arV
    split <;> simp [ha, hbb]
theorem go_putV {idx f : Nat} {ty : FieldType} {vv : Value} {s' : S} (F : FldS P idx f ty) (hM : (mY M).cls = cN P.2)
    (hlays : ∀ nm ds, (cS P.2)[f]? = some (nm, ds, ty) → Jvm.Cond.lays (cN P.2) (cN P.2) nm ds ∈ P.1 ∨ (Jvm.Cond.laysFinal (cN P.2) (cN P.2) nm ds ∈ P.1 ∧ (mY M).name = "<init>"))
    (hpos : 0 < mN M) (hr : ∀ α b, con α b vv = vv) (hn : narrow ty vv = vv) (hfi : fits ty vv = true) (hv : vv = scV ty s' f) (ho : ∀ f' x, (cS P.2)[f']? = some x → f' ≠ f → scV x.2.2 s' f' = scV x.2.2 s f') (ha : gA s' = gA s) (hbb : gB s' = gB s)
    (d : decode (mB M) pc = .ok (.putfield idx, 3)) (g : Go P M (pc + 3) L st (none, [(k, s')]) out) : Go P M pc L (vv :: .ref 1 :: st) (none, [(k, s)]) out :=
  go_ch (fun l Z a0 p e R s1 m args below meth c α b n0 h0 uC uS ok hl T locs cells slots I => by
    obtain ⟨nm, ds, f1, f2⟩ := F
    obtain ⟨hw, fa, hx, hZ, hown, hc, hml, hret, hnm, hR, hn0, htop, hsz⟩ := ok
    obtain ⟨X, Rp, Fm, Nl, hs, u1, u2, c1, c2, hN⟩ := I
    have Rp1 := rep_one Rp
    have Fd := Rp1.2.1 f _ f1
    rw [hM] at hown
    obtain ⟨T', h', X', e', Wt, stp⟩ := putF X hx hZ hown (host := "") (Or.inl (hw _ f2)) Via.refl rfl Fd Rp1.1 ((hlays nm ds f1).imp (fun q => hw _ q) (fun q => ⟨hw _ q.1, rfl, hnm.trans q.2⟩)) fa.1 (fa.2.2.1 f _ f1).2 hn hfi (g := mkF m pc (cL α b L) (vv :: .ref b :: cV α b st)) rfl rfl (hb hc d)
    refine ⟨T', _, cells, slots, ⟨X', rep_mk (by rw [e']; exact rep_put fa Rp1 f1 Wt hv ho ha hbb), by rw [e']; exact Fm.wr Wt (Nat.le_refl _) (by have := Nat.mul_le_mul_left (cK P.2 + 1) hpos; omega), Fr.snoc X' Nl hn0, by rw [e', Wt.size]; exact hs, u1, u2, c1, c2, hN⟩, fun target r => ?_⟩
    rw [show cV α b (vv :: .ref 1 :: st) = con α b vv :: .ref b :: cV α b st from rfl, hr]
    exact stp target r) g
theorem scV_sI (s : S) (f : Nat) (x : Int32) (ty : FieldType) (f' : Nat) (h : f' ≠ f) : scV ty (sI s f x) f' = scV ty s f' := by
  unfold scV; split <;> simp [gI_sI, gL_sI, h]
theorem scV_sL (s : S) (f : Nat) (x : Int64) (ty : FieldType) (f' : Nat) (h : f' ≠ f) : scV ty (sL s f x) f' = scV ty s f' := by
  unfold scV; split <;> simp [gI_sL, gL_sL, h]
/-- the word that lets the field be written -/
def Wrt (P : PI) (M : Meth) (f : Nat) : Prop := ∃ nm ds ty, (cS P.2)[f]? = some (nm, ds, ty) ∧ (Jvm.Cond.lays (cN P.2) (cN P.2) nm ds ∈ P.1 ∨ (Jvm.Cond.laysFinal (cN P.2) (cN P.2) nm ds ∈ P.1 ∧ (mY M).name = "<init>"))
theorem Wrt.use {f : Nat} {ty : FieldType} (h : Wrt P M f) : ∀ nm ds, (cS P.2)[f]? = some (nm, ds, ty) → Jvm.Cond.lays (cN P.2) (cN P.2) nm ds ∈ P.1 ∨ (Jvm.Cond.laysFinal (cN P.2) (cN P.2) nm ds ∈ P.1 ∧ (mY M).name = "<init>") := by
  obtain ⟨nm, ds, ty', h1, h2⟩ := h
  intro nm' ds' h3
  cases h1.symm.trans h3
  exact h2
theorem go_putI {idx f : Nat} (F : FldS P idx f .int) (hM : (mY M).cls = cN P.2) (hl : Wrt P M f) (hp : 0 < mN M) (d : decode (mB M) pc = .ok (.putfield idx, 3)) (g : Go P M (pc + 3) L st (none, [(k, sI s f x)]) out) : Go P M pc L (.int x :: .ref 1 :: st) (none, [(k, s)]) out :=
  go_putV F hM hl.use hp (fun _ _ => rfl) rfl rfl (by simp [scV, gI_sI]) (fun f' y _ h => scV_sI s f x _ f' h) rfl rfl d g
theorem go_putZ {idx f : Nat} (F : FldS P idx f .boolean) (hM : (mY M).cls = cN P.2) (hl : Wrt P M f) (hp : 0 < mN M) (hz : x = 0 ∨ x = 1) (d : decode (mB M) pc = .ok (.putfield idx, 3)) (g : Go P M (pc + 3) L st (none, [(k, sI s f x)]) out) : Go P M pc L (.int x :: .ref 1 :: st) (none, [(k, s)]) out :=
  go_putV F hM hl.use hp (fun _ _ => rfl) (by rcases hz with rfl | rfl <;> rfl) (by rcases hz with rfl | rfl <;> rfl) (by simp [scV, gI_sI]) (fun f' y _ h => scV_sI s f x _ f' h) rfl rfl d g
theorem go_putJ {idx f : Nat} (F : FldS P idx f .long) (hM : (mY M).cls = cN P.2) (hl : Wrt P M f) (hp : 0 < mN M) (d : decode (mB M) pc = .ok (.putfield idx, 3)) (g : Go P M (pc + 3) L st (none, [(k, sL s f u)]) out) : Go P M pc L (.long u :: .ref 1 :: st) (none, [(k, s)]) out :=
  go_putV F hM hl.use hp (fun _ _ => rfl) rfl rfl (by simp [scV, gL_sL]) (fun f' y _ h => scV_sL s f u _ f' h) rfl rfl d g
/-! ### arrays -/
theorem ix_some {A : Type} {l : List A} {j : Int32} {x : A} (h : ix l j = some x) : ¬ j < 0 ∧ l[j.toNatClampNeg]? = some x := by
  unfold ix at h; split at h
  · cases h
  · rename_i q; exact ⟨q, h⟩
theorem st_some {A : Type} {l l' : List A} {j : Int32} {x : A} (h : Jvm.AM.st l j x = some l') : ¬ j < 0 ∧ j.toNatClampNeg < l.length ∧ l' = l.set j.toNatClampNeg x := by
  unfold Jvm.AM.st at h; split at h
  · cases h
  · rename_i q; split at h
    · rename_i q2; cases h; exact ⟨q, q2, rfl⟩
    · cases h
theorem ar_in {c : Cell} {vs : List Value} {j : Int32} {vv : Value} (e : c.slots = vs.toArray) (h1 : ¬ j < 0) (h2 : vs[j.toNatClampNeg]? = some vv) : ¬ (j < 0 ∨ c.slots.size ≤ j.toNatClampNeg) ∧ c.slots[j.toNatClampNeg]? = some vv := by
  have := get_lt h2
  refine ⟨fun q => ?_, by rw [e]; simpa using h2⟩
  rcases q with q | q
  · exact h1 q
  · rw [e] at q; simp at q; omega
theorem go_iaload {q : Nat} {j : Int32} {nm ds : String} {cap : Nat} (ha : (cA P.2)[q]? = some (nm, ds, .int, cap)) (hq : Nat.blt q k = true) (hx : ix (gA s q) j = some v) (d : decode (mB M) pc = .ok (.iaload, 1)) (g : Go P M (pc + 1) L (.int v :: st) (none, [(k, s)]) out) : Go P M pc L (.int j :: .ref (q + 2) :: st) (none, [(k, s)]) out :=
  go_ch (fun l Z a0 p e R s1 m args below meth c α b n0 h0 uC uS ok hl T locs cells slots I => by
    obtain ⟨cl, A, ec⟩ := (rep_one I.2.1).2.2.2 q _ ha (by simpa [Nat.blt_eq] using hq)
    obtain ⟨h1, h2⟩ := ix_some hx
    obtain ⟨h3, h4⟩ := ar_in ec h1 (vv := .int v) (by simp [arV, h2])
    refine ⟨T, locs, cells, slots, I, fun target r => ?_⟩
    refine I.1.iaload ok.2.2.1 (j := j) (v := .int v) A.1 (State.isArrayOf_alike ok.2.2.2.1.alike A.2.1) A.2.2 h3 h4 (g := mkF m pc (cL α b L) (.int j :: .ref (b + 1 + q) :: cV α b st)) rfl rfl (hb ok.2.2.2.2.2.1 d) _ r |> fun t => ?_
    rw [show cV α b (.int j :: .ref (q + 2) :: st) = .int j :: .ref (b + (q + 1)) :: cV α b st from rfl, show b + (q + 1) = b + 1 + q by omega]
    exact t) g
theorem go_laload {q : Nat} {j : Int32} {nm ds : String} {cap : Nat} (ha : (cA P.2)[q]? = some (nm, ds, .long, cap)) (hq : Nat.blt q k = true) (hx : ix (gB s q) j = some u) (d : decode (mB M) pc = .ok (.laload, 1)) (g : Go P M (pc + 1) L (.long u :: st) (none, [(k, s)]) out) : Go P M pc L (.int j :: .ref (q + 2) :: st) (none, [(k, s)]) out :=
  go_ch (fun l Z a0 p e R s1 m args below meth c α b n0 h0 uC uS ok hl T locs cells slots I => by
    obtain ⟨cl, A, ec⟩ := (rep_one I.2.1).2.2.2 q _ ha (by simpa [Nat.blt_eq] using hq)
    obtain ⟨h1, h2⟩ := ix_some hx
    obtain ⟨h3, h4⟩ := ar_in ec h1 (vv := .long u) (by simp [arV, h2])
    refine ⟨T, locs, cells, slots, I, fun target r => ?_⟩
    refine I.1.laload ok.2.2.1 (j := j) (v := .long u) A.1 (State.isArrayOf_alike ok.2.2.2.1.alike A.2.1) A.2.2 h3 h4 (g := mkF m pc (cL α b L) (.int j :: .ref (b + 1 + q) :: cV α b st)) rfl rfl (hb ok.2.2.2.2.2.1 d) _ r |> fun t => ?_
    rw [show cV α b (.int j :: .ref (q + 2) :: st) = .int j :: .ref (b + (q + 1)) :: cV α b st from rfl, show b + (q + 1) = b + 1 + q by omega]
    exact t) g
theorem go_baload {q : Nat} {j : Int32} {nm ds : String} {ty : FieldType} {cap : Nat} (ha : (cA P.2)[q]? = some (nm, ds, ty, cap)) (hty : ty = .boolean ∨ ty = .byte) (hq : Nat.blt q k = true) (hx : ix (gA s q) j = some v) (d : decode (mB M) pc = .ok (.baload, 1)) (g : Go P M (pc + 1) L (.int v :: st) (none, [(k, s)]) out) : Go P M pc L (.int j :: .ref (q + 2) :: st) (none, [(k, s)]) out :=
  go_ch (fun l Z a0 p e R s1 m args below meth c α b n0 h0 uC uS ok hl T locs cells slots I => by
    obtain ⟨cl, A, ec⟩ := (rep_one I.2.1).2.2.2 q _ ha (by simpa [Nat.blt_eq] using hq)
    obtain ⟨h1, h2⟩ := ix_some hx
    refine ⟨T, locs, cells, slots, I, fun target r => ?_⟩
    rw [show cV α b (.int j :: .ref (q + 2) :: st) = .int j :: .ref (b + (q + 1)) :: cV α b st from rfl, show b + (q + 1) = b + 1 + q by omega]
    rcases hty with rfl | rfl
    · obtain ⟨h3, h4⟩ := ar_in ec h1 (vv := .int v) (by simp [arV, h2])
      exact I.1.baloadBooleans ok.2.2.1 (j := j) (v := .int v) A.1 (State.isArrayOf_alike ok.2.2.2.1.alike A.2.1) A.2.2 h3 h4 (g := mkF m pc (cL α b L) (.int j :: .ref (b + 1 + q) :: cV α b st)) rfl rfl (hb ok.2.2.2.2.2.1 d) _ r
    · obtain ⟨h3, h4⟩ := ar_in ec h1 (vv := .int v) (by simp [arV, h2])
      exact I.1.baloadBytes ok.2.2.1 (j := j) (v := .int v) A.1 (State.isArrayOf_alike ok.2.2.2.1.alike A.2.1) A.2.2 h3 h4 (g := mkF m pc (cL α b L) (.int j :: .ref (b + 1 + q) :: cV α b st)) rfl rfl (hb ok.2.2.2.2.2.1 d) _ r) g
theorem go_alen {q : Nat} {nm ds : String} {ty : FieldType} {cap : Nat} (ha : (cA P.2)[q]? = some (nm, ds, ty, cap)) (hty : ty ≠ .long) (hq : Nat.blt q k = true) (d : decode (mB M) pc = .ok (.arraylength, 1)) (g : Go P M (pc + 1) L (.int (gA s q).length.toInt32 :: st) (none, [(k, s)]) out) : Go P M pc L (.ref (q + 2) :: st) (none, [(k, s)]) out :=
  go_ch (fun l Z a0 p e R s1 m args below meth c α b n0 h0 uC uS ok hl T locs cells slots I => by
    obtain ⟨cl, A, ec⟩ := (rep_one I.2.1).2.2.2 q _ ha (by simpa [Nat.blt_eq] using hq)
    refine ⟨T, locs, cells, slots, I, fun target r => ?_⟩
    have e1 : cl.slots.size = (gA s q).length := by rw [ec]; cases ty <;> simp [arV] at hty ⊢
    rw [show cV α b (.ref (q + 2) :: st) = .ref (b + (q + 1)) :: cV α b st from rfl, show b + (q + 1) = b + 1 + q by omega]
    refine I.1.arraylength ok.2.2.1 (cell := cl) A.1 (State.isArrayOf_alike ok.2.2.2.1.alike A.2.1) (g := mkF m pc (cL α b L) (.ref (b + 1 + q) :: cV α b st)) rfl rfl (hb ok.2.2.2.2.2.1 d) _ ?_
    rw [e1]; exact r) g
theorem go_sload {l0 : List Int32} {os : List (Nat × S)} {j : Int32} (hx : ix l0 j = some v) (d : decode (mB M) pc = .ok (.iaload, 1)) (g : Go P M (pc + 1) L (.int v :: st) (some l0, os) out) : Go P M pc L (.int j :: .ref 0 :: st) (some l0, os) out :=
  go_ch (fun l Z a0 p e R s1 m args below meth c α b n0 h0 uC uS ok hl T locs cells slots I => by
    obtain ⟨cl, A, ec⟩ := (I.2.1.1 l0 rfl).1
    obtain ⟨h1, h2⟩ := ix_some hx
    obtain ⟨h3, h4⟩ := ar_in ec h1 (vv := .int v) (by simp [h2])
    exact ⟨T, locs, cells, slots, I, fun target r => I.1.iaload ok.2.2.1 (j := j) (v := .int v) A.1 (State.isArrayOf_alike ok.2.2.2.1.alike A.2.1) A.2.2 h3 h4 (g := mkF m pc (cL α b L) (cV α b (.int j :: .ref 0 :: st))) rfl rfl (hb ok.2.2.2.2.2.1 d) _ r⟩) g
theorem go_slen {l0 : List Int32} {os : List (Nat × S)} (d : decode (mB M) pc = .ok (.arraylength, 1)) (g : Go P M (pc + 1) L (.int l0.length.toInt32 :: st) (some l0, os) out) : Go P M pc L (.ref 0 :: st) (some l0, os) out :=
  go_ch (fun l Z a0 p e R s1 m args below meth c α b n0 h0 uC uS ok hl T locs cells slots I => by
    obtain ⟨cl, A, ec⟩ := (I.2.1.1 l0 rfl).1
    refine ⟨T, locs, cells, slots, I, fun target r => ?_⟩
    have e1 : cl.slots.size = l0.length := by rw [ec]; simp
    refine I.1.arraylength ok.2.2.1 (cell := cl) A.1 (State.isArrayOf_alike ok.2.2.2.1.alike A.2.1) (g := mkF m pc (cL α b L) (cV α b (.ref 0 :: st))) rfl rfl (hb ok.2.2.2.2.2.1 d) _ ?_
    rw [e1]; exact r) g
/-- a component of an array of the object takes its value -/
theorem rep_store {Z : State} {ci : CI} {h h' : Heap} {b : Nat} {s s' : S} {k q i : Nat} {nm ds : String} {ty : FieldType} {cap : Nat} {vv : Value} (F : Rep1 Z ci h b (k, s)) (hf : (cA ci)[q]? = some (nm, ds, ty, cap)) (hq : q < k)
    (Wt : Wr h h' (b + 1 + q) i vv) (hi : i < (arV ty s q).length) (hv : arV ty s' q = (arV ty s q).set i vv) (ho : ∀ q' x, (cA ci)[q']? = some x → q' ≠ q → arV x.2.2.1 s' q' = arV x.2.2.1 s q') (ha : gI s' = gI s) (hbb : gL s' = gL s) : Rep1 Z ci h' b (k, s') := by
  obtain ⟨f1, f2, f3, f4⟩ := F
  refine ⟨f1.wr Wt, fun f x hx => ?_, fun q' x hx => (f3 q' x hx).other Wt (Or.inl (nq (by omega))), fun q' x hx hq' => ?_⟩
  · have e : scV x.2.2 s' f = scV x.2.2 s f := by unfold scV; split <;> simp [ha, hbb]
    show Fld Z h' b (cN ci) x.1 x.2.1 (scV x.2.2 s' f)
    rw [e]
    exact (f2 f x hx).other Wt (Or.inl (nq (by omega)))
  · by_cases e : q' = q
    · subst e
      cases hf.symm.trans hx
      obtain ⟨c, A, ec⟩ := f4 q' _ hf hq
      refine ⟨_, A.same Wt, ?_⟩
      show (c.setSlot i vv).slots = (arV ty s' q').toArray
      rw [hv]
      simp only [Cell.setSlot, ec]
      simp
    · obtain ⟨c, A, ec⟩ := f4 q' x hx hq'
      refine ⟨c, A.other Wt (nq (by omega)), ec.trans ?_⟩
      rw [ho q' x hx e]
theorem arV_sA (s : S) (q : Nat) (l : List Int32) (ty : FieldType) (q' : Nat) (h : q' ≠ q) : arV ty (sA s q l) q' = arV ty s q' := by
  unfold arV; split <;> simp [gA_sA, gB_sA, h]
theorem arV_sB (s : S) (q : Nat) (l : List Int64) (ty : FieldType) (q' : Nat) (h : q' ≠ q) : arV ty (sB s q l) q' = arV ty s q' := by
  unfold arV; split <;> simp [gA_sB, gB_sB, h]
theorem in_of {c : Cell} {vs : List Value} {j : Int32} (e : c.slots = vs.toArray) (h1 : ¬ j < 0) (h2 : j.toNatClampNeg < vs.length) : ¬ (j < 0 ∨ c.slots.size ≤ j.toNatClampNeg) := fun q => by
  rcases q with q | q
  · exact h1 q
  · rw [e] at q; simp at q; omega
theorem go_iastore {q : Nat} {j : Int32} {nm ds : String} {cap : Nat} {l' : List Int32} (ha : (cA P.2)[q]? = some (nm, ds, .int, cap)) (hq : Nat.blt q k = true) (hp : 0 < mN M) (hx : Jvm.AM.st (gA s q) j x = some l') (d : decode (mB M) pc = .ok (.iastore, 1)) (g : Go P M (pc + 1) L st (none, [(k, sA s q l')]) out) : Go P M pc L (.int x :: .int j :: .ref (q + 2) :: st) (none, [(k, s)]) out :=
  go_ch (fun l Z a0 p e R s1 m args below meth c α b n0 h0 uC uS ok hl T locs cells slots I => by
    have hq' : q < k := by simpa [Nat.blt_eq] using hq
    have hqK := get_lt ha
    obtain ⟨X, Rp, Fm, Nl, hs, u1, u2, c1, c2, hN⟩ := I
    obtain ⟨cl, A, ec⟩ := (rep_one Rp).2.2.2 q _ ha hq'
    obtain ⟨h1, h2, rfl⟩ := st_some hx
    have hin := in_of ec h1 (by simpa [arV] using h2)
    obtain ⟨T', h', X', e', Wt, stp⟩ := stI X ok.2.2.1 ok.2.2.2.1 rfl A (x := x) hin (g := mkF m pc (cL α b L) (.int x :: .int j :: .ref (b + 1 + q) :: cV α b st)) rfl rfl (hb ok.2.2.2.2.2.1 d)
    refine ⟨T', _, cells, slots, ⟨X', rep_mk (by rw [e']; exact rep_store (rep_one Rp) ha hq' Wt (by simpa [arV] using h2) (by simp [arV, gA_sA, List.map_set]) (fun q' y _ h => arV_sA s q _ _ q' h) rfl rfl), by rw [e']; exact Fm.wr Wt (by omega) (by have := Nat.mul_le_mul_left (cK P.2 + 1) hp; simp only [cK] at *; omega), Fr.snoc X' Nl (by have := ok.2.2.2.2.2.2.2.2.2.2.1; omega), by rw [e', Wt.size]; exact hs, u1, u2, c1, c2, hN⟩, fun target r => ?_⟩
    rw [show cV α b (.int x :: .int j :: .ref (q + 2) :: st) = .int x :: .int j :: .ref (b + (q + 1)) :: cV α b st from rfl, show b + (q + 1) = b + 1 + q by omega]
    exact stp target r) g
theorem go_lastore {q : Nat} {j : Int32} {nm ds : String} {cap : Nat} {l' : List Int64} (ha : (cA P.2)[q]? = some (nm, ds, .long, cap)) (hq : Nat.blt q k = true) (hp : 0 < mN M) (hx : Jvm.AM.st (gB s q) j u = some l') (d : decode (mB M) pc = .ok (.lastore, 1)) (g : Go P M (pc + 1) L st (none, [(k, sB s q l')]) out) : Go P M pc L (.long u :: .int j :: .ref (q + 2) :: st) (none, [(k, s)]) out :=
  go_ch (fun l Z a0 p e R s1 m args below meth c α b n0 h0 uC uS ok hl T locs cells slots I => by
    have hq' : q < k := by simpa [Nat.blt_eq] using hq
    have hqK := get_lt ha
    obtain ⟨X, Rp, Fm, Nl, hs, u1, u2, c1, c2, hN⟩ := I
    obtain ⟨cl, A, ec⟩ := (rep_one Rp).2.2.2 q _ ha hq'
    obtain ⟨h1, h2, rfl⟩ := st_some hx
    have hin := in_of ec h1 (by simpa [arV] using h2)
    obtain ⟨T', h', X', e', Wt, stp⟩ := stJ X ok.2.2.1 ok.2.2.2.1 rfl A (x := u) hin (g := mkF m pc (cL α b L) (.long u :: .int j :: .ref (b + 1 + q) :: cV α b st)) rfl rfl (hb ok.2.2.2.2.2.1 d)
    refine ⟨T', _, cells, slots, ⟨X', rep_mk (by rw [e']; exact rep_store (rep_one Rp) ha hq' Wt (by simpa [arV] using h2) (by simp [arV, gB_sB, List.map_set]) (fun q' y _ h => arV_sB s q _ _ q' h) rfl rfl), by rw [e']; exact Fm.wr Wt (by omega) (by have := Nat.mul_le_mul_left (cK P.2 + 1) hp; simp only [cK] at *; omega), Fr.snoc X' Nl (by have := ok.2.2.2.2.2.2.2.2.2.2.1; omega), by rw [e', Wt.size]; exact hs, u1, u2, c1, c2, hN⟩, fun target r => ?_⟩
    rw [show cV α b (.long u :: .int j :: .ref (q + 2) :: st) = .long u :: .int j :: .ref (b + (q + 1)) :: cV α b st from rfl, show b + (q + 1) = b + 1 + q by omega]
    exact stp target r) g
theorem go_bastore {q : Nat} {j : Int32} {nm ds : String} {ty : FieldType} {cap : Nat} {l' : List Int32} (ha : (cA P.2)[q]? = some (nm, ds, ty, cap)) (hty : ty = .boolean ∨ ty = .byte) (hq : Nat.blt q k = true) (hp : 0 < mN M) (hv : v = nar ty x) (hx : Jvm.AM.st (gA s q) j v = some l') (d : decode (mB M) pc = .ok (.bastore, 1)) (g : Go P M (pc + 1) L st (none, [(k, sA s q l')]) out) : Go P M pc L (.int x :: .int j :: .ref (q + 2) :: st) (none, [(k, s)]) out :=
  go_ch (fun l Z a0 p e R s1 m args below meth c α b n0 h0 uC uS ok hl T locs cells slots I => by
    have hq' : q < k := by simpa [Nat.blt_eq] using hq
    have hqK := get_lt ha
    obtain ⟨X, Rp, Fm, Nl, hs, u1, u2, c1, c2, hN⟩ := I
    obtain ⟨cl, A, ec⟩ := (rep_one Rp).2.2.2 q _ ha hq'
    obtain ⟨h1, h2, rfl⟩ := st_some hx
    subst hv
    have hlen : j.toNatClampNeg < (arV ty s q).length := by rcases hty with rfl | rfl <;> simpa [arV] using h2
    have hset : arV ty (sA s q ((gA s q).set j.toNatClampNeg (nar ty x))) q = (arV ty s q).set j.toNatClampNeg (.int (nar ty x)) := by rcases hty with rfl | rfl <;> simp [arV, gA_sA, List.map_set]
    have hin := in_of ec h1 hlen
    obtain ⟨T', h', X', e', Wt, stp⟩ : ∃ T' h', Stand p l e R s1 m args below meth c T' (locs ++ [⟨b + 1 + q, j.toNatClampNeg⟩]) cells slots ∧ T'.heap = h' ∧ Wr T.heap h' (b + 1 + q) j.toNatClampNeg (.int (nar ty x)) ∧ ∀ target, Steps p.tables e below (T'.setTop (mkF m (pc + 1) (cL α b L) (cV α b st))) target → Steps p.tables e below (T.setTop (mkF m pc (cL α b L) (.int x :: .int j :: .ref (b + 1 + q) :: cV α b st))) target := by
      rcases hty with rfl | rfl
      · exact stZ X ok.2.2.1 ok.2.2.2.1 rfl A (x := x) hin (g := mkF m pc (cL α b L) (.int x :: .int j :: .ref (b + 1 + q) :: cV α b st)) rfl rfl (hb ok.2.2.2.2.2.1 d)
      · exact stB X ok.2.2.1 ok.2.2.2.1 rfl A (x := x) hin (g := mkF m pc (cL α b L) (.int x :: .int j :: .ref (b + 1 + q) :: cV α b st)) rfl rfl (hb ok.2.2.2.2.2.1 d)
    refine ⟨T', _, cells, slots, ⟨X', rep_mk (by rw [e']; exact rep_store (rep_one Rp) ha hq' Wt hlen hset (fun q' y _ h => arV_sA s q _ _ q' h) rfl rfl), by rw [e']; exact Fm.wr Wt (by omega) (by have := Nat.mul_le_mul_left (cK P.2 + 1) hp; simp only [cK] at *; omega), Fr.snoc X' Nl (by have := ok.2.2.2.2.2.2.2.2.2.2.1; omega), by rw [e', Wt.size]; exact hs, u1, u2, c1, c2, hN⟩, fun target r => ?_⟩
    rw [show cV α b (.int x :: .int j :: .ref (q + 2) :: st) = .int x :: .int j :: .ref (b + (q + 1)) :: cV α b st from rfl, show b + (q + 1) = b + 1 + q by omega]
    exact stp target r) g
/-! ## 5. A method as a whole; calls -/
def Call (P : PI) (M : Meth) (as : List Value) (w : W) (out : Option Value × W) : Prop :=
  ∀ (l : Launch) (Z : State) (a0 : Array Value) (ws : List Jvm.Cond) (α b n0 : Nat) (h0 : Heap), (∀ d ∈ P.1, d.before a0 Z = true) → Facts Z a0 P.2 → n0 ≤ b → RepW Z P.2 α b w h0 → w.2.length ≤ mN M → (mTop M = true → h0.size = b + usedC w ∧ usedC w = mUC M ∧ usedS P.2 w = mUS M) →
    MetFree l (mY M) (head1 (Jvm.Cond.code (mY M) (mB M) (mL M) (mT M) :: ws) (mR M)) (fun a U => a = (cV α b as).toArray ∧ Z.Warmed39 U.vm ∧ U.heap = h0) (fun _ _ _ _ _ => True)
      (fun _ U o U' => ∃ v L, o = .returned v ∧ (v = out.1.map (con α b) ∧ Fr n0 L ∧ RepW Z P.2 α b out.2 U'.heap ∧ Frm b (b + (cK P.2 + 1) * mN M) h0 U'.heap ∧ ∃ k, U'.heap.size = h0.size + k ∧ k + usedC w = usedC out.2) ∧ FrameEnd U o U' L (mR M).cells (mR M).slots)
theorem call_of_go {as : List Value} (hpl : plainName (mY M).cls = true) (hlen : (entryL as (mL M)).length = mL M) (hret : mT M = none → out.1 = none) (g : Go P M 0 (entryL as (mL M)) [] w out) : Call P M as w out := by
  intro l Z a0 ws α b n0 h0 hw fa hn0 Rp hN htop
  refine MetFree.of_bodySF (plainFor_of_name hpl) hisR ?_
  intro p e s m args below meth c s₁ Bd hml0 hP hK
  obtain ⟨rfl, hZ, hh⟩ := hP
  have X0 : Stand p l e (mR M) s m (cV α b as).toArray below meth c s₁ [] 0 0 := Stand.of_body Bd
  have e0 : s₁.heap = h0 := by rw [← hh, Bd.state]; rfl
  obtain ⟨T', L', c', n', I', fin⟩ := g hlen l Z a0 p e (mR M) s m (cV α b as).toArray below meth c α b n0 h0 (usedC w) (usedS P.2 w) ⟨hw, fa, Bd.exec, hZ, findClass_of_methodNamed Bd.named, Bd.bytes, hml0, Bd.returns, (name_of_methodNamed Bd.named Bd.method).1, rfl, hn0, htop, by rw [hh]⟩ s₁ [] 0 0 ⟨X0, by rw [e0]; exact Rp, by rw [e0]; exact Frm.refl _ _ _, Fr.nil _, by rw [e0]; rfl, by simp, by simp, Nat.zero_le _, Nat.zero_le _, hN⟩
  obtain ⟨X', Rp', Fm', Nl', hs', u1', u2', c1', c2', hN'⟩ := I'
  obtain ⟨fs, hr, hrun, hended, hW, hsame⟩ := X'.leave (v := out.1.map (con α b)) (fun h => by rw [Bd.returns] at h; rw [hret h]; rfl)
  refine ⟨_, _, ?_, hrun, hended, _, _, rfl, ⟨rfl, Nl', Rp', Fm', c', hs', u1'⟩, ⟨_, rfl⟩, hW, hsame.mono c1' c2'⟩
  have q := fin fs hr
  rw [← entry_locals] at q
  exact q
def nr : Value → Bool
  | .ref _ => false
  | _ => true
theorem con_nr {α b : Nat} {v : Value} (h : nr v = true) : con α b v = v := by
  cases v <;> first | rfl | cases h
theorem cV_nr {α b : Nat} {l : List Value} (h : l.all nr = true) : cV α b l = l := by
  have : ∀ x ∈ l, con α b x = x := fun x hx => con_nr (List.all_eq_true.mp h x hx)
  unfold cV
  exact (List.map_congr_left this).trans (List.map_id _)
theorem rep_obj {Z : State} {ci : CI} {α b : Nat} {h : Heap} {i : Nat} (F : RepW Z ci α b w h) (ho : w.2[i]? = some o) : RepW Z ci 0 (b + (cK ci + 1) * i) (none, [o]) h := rep_mk (F.2 i o ho)
theorem rep_back {Z : State} {ci : CI} {α α' b : Nat} {h h' : Heap} {i : Nat} (F : RepW Z ci α b w h) (ho : w.2[i]? = some o) (G : RepW Z ci α' (b + (cK ci + 1) * i) (none, [o']) h') (Fm : Frm (b + (cK ci + 1) * i) (b + (cK ci + 1) * i + (cK ci + 1) * 1) h h') : RepW Z ci α b (w.1, w.2.set i o') h' := by
  refine ⟨fun l hl => ⟨((F.1 l hl).1).frm fun c q => Fm _ _ q (Or.inl ?_), (F.1 l hl).2⟩, fun j oj hj => ?_⟩
  · have := (F.1 l hl).2; exact Nat.lt_of_lt_of_le this (Nat.le_add_right _ _)
  · by_cases e : j = i
    · subst e
      rw [show (w.1, w.2.set j o').2 = w.2.set j o' from rfl, List.getElem?_set_self (get_lt ho)] at hj
      cases hj
      exact rep_one G
    · rw [show (w.1, w.2.set i o').2 = w.2.set i o' from rfl, List.getElem?_set_ne (Ne.symm e)] at hj
      refine (F.2 j oj hj).frm fun x c q1 q2 q3 => Fm _ _ q3 ?_
      rcases Nat.lt_or_gt_of_ne e with q | q
      · have := Nat.mul_le_mul_left (cK ci + 1) q
        rw [Nat.mul_succ] at this; omega
      · have := Nat.mul_le_mul_left (cK ci + 1) q
        rw [Nat.mul_succ] at this; omega
theorem sum_set {A : Type} (f : A → Nat) {a a' : A} : ∀ {l : List A} {i : Nat}, l[i]? = some a → ((l.set i a').map f).sum + f a = (l.map f).sum + f a'
  | [], i, h => by simp at h
  | b :: r, 0, h => by simp at h; subst h; simp; omega
  | b :: r, i + 1, h => by
    simp only [List.getElem?_cons_succ] at h
    have := sum_set f (a' := a') h
    simp only [List.set_cons_succ, List.map_cons, List.sum_cons]; omega
def CQ (ci : CI) (Z : State) (α b n0 : Nat) (h0 : Heap) (N : Nat) (w : W) (out : Option Value × W) (v : Option Value) (hp : Heap) (L : List Loc) : Prop := v = out.1.map (con α b) ∧ Fr n0 L ∧ RepW Z ci α b out.2 hp ∧ Frm b (b + (cK ci + 1) * N) h0 hp ∧ ∃ k, hp.size = h0.size + k ∧ k + usedC w = usedC out.2
/-- what a callee that makes nothing must fit into -/
def Small (M M' : Meth) (rest : List Value) : Prop := (mR M').cells = 0 ∧ (mR M').slots = 0 ∧ mTop M' = false ∧ Nat.ble ((mR M').frames + 1) (mR M).frames = true ∧ Nat.ble ((rest.map fun v => v.category).sum + (mL M' + 11) + (mR M').locals) (mR M).locals = true
theorem ret_st {α b b' : Nat} {r : Option Value} {rest : List Value} (hr : r.all nr = true) : (r.map (con 0 b')).toList ++ cV α b rest = cV α b (r.toList ++ rest) := by
  cases r with
  | none => rfl
  | some v => simp only [Option.map_some, Option.toList_some, cV, List.cons_append, List.nil_append, List.map_cons]; rw [con_nr (show nr v = true from hr), con_nr (show nr v = true from hr)]
theorem inv_obj {l : Launch} {Z : State} {p : Program} {e : Env} {R : Room} {s : State} {m : MethodId} {args : Array Value} {below : List Frame} {meth : Method} {c : Code} {α b n0 : Nat} {h0 : Heap} {uC uS : Nat} {T T2 : State} {locs L2 : List Loc} {cells slots rc rs i : Nat}
    (I : Inv P M l Z p e R s m args below meth c α b n0 h0 uC uS w T locs cells slots) (ho : w.2[i]? = some o) (X2 : Stand p l e R s m args below meth c T2 (locs ++ L2) (cells + rc) (slots + rs))
    (N2 : Fr n0 L2) (R2 : RepW Z P.2 0 (b + (cK P.2 + 1) * i) (none, [o']) T2.heap) (F2 : Frm (b + (cK P.2 + 1) * i) (b + (cK P.2 + 1) * i + (cK P.2 + 1) * 1) T.heap T2.heap) (k2 : ∃ k, T2.heap.size = T.heap.size + k ∧ k + usedC (none, [o]) = usedC (none, [o']))
    (hC : o'.1 = o.1 + rc) (hS : usedS P.2 (none, [o']) = usedS P.2 (none, [o]) + rs) (q1 : cells + rc ≤ R.cells) (q2 : slots + rs ≤ R.slots) : Inv P M l Z p e R s m args below meth c α b n0 h0 uC uS (w.1, w.2.set i o') T2 (locs ++ L2) (cells + rc) (slots + rs) := by
  obtain ⟨X, Rp, Fm, Nl, hs, u1, u2, c1, c2, hN⟩ := I
  obtain ⟨k, k1, k3⟩ := k2
  have hi := get_lt ho
  have a1 := sum_set (fun o : Nat × S => 1 + o.1) (a' := o') ho
  have a2 := sum_set (fun o : Nat × S => cF P.2 + (((cA P.2).take o.1).map fun x => x.2.2.2).sum) (a' := o') ho
  have hle : (cK P.2 + 1) * (i + 1) ≤ (cK P.2 + 1) * mN M := Nat.mul_le_mul_left _ (by omega)
  rw [Nat.mul_succ] at hle
  refine ⟨X2, rep_back Rp ho R2 F2, Fm.trans (F2.wide (Nat.le_add_right _ _) (by omega)), Nl.app N2, ?_, ?_, ?_, q1, q2, by simpa using hN⟩
  · simp only [usedC, List.map_cons, List.map_nil, List.sum_cons, List.sum_nil] at k3; omega
  · simp only [usedC] at u1 ⊢; omega
  · simp only [usedS, List.map_cons, List.map_nil, List.sum_cons, List.sum_nil] at u2 hS ⊢; omega
def LinkV (P : PI) (own : String) (idx : Nat) (M' : Meth) : Prop := Jvm.Cond.methodLink own idx (mY M') ∈ P.1 ∧ Jvm.Cond.declares (mY M') ∈ P.1 ∧ Jvm.Cond.selects (cN P.2) (mY M') (mY M') ∈ P.1 ∧ Jvm.Cond.instanceMethod (mY M') ∈ P.1 ∧ Jvm.Cond.code (mY M') (mB M') (mL M') (mT M') ∈ P.1 ∧ (mY M').cls = cN P.2 ∧ mN M' = 1
def LinkP (P : PI) (own : String) (idx : Nat) (M' : Meth) : Prop := Jvm.Cond.methodLink own idx (mY M') ∈ P.1 ∧ Jvm.Cond.instanceMethod (mY M') ∈ P.1 ∧ Jvm.Cond.privateMethod (mY M') ∈ P.1 ∧ Jvm.Cond.code (mY M') (mB M') (mL M') (mT M') ∈ P.1 ∧ (mY M').cls = cN P.2 ∧ mN M' = 1
def LinkS (P : PI) (own : String) (idx : Nat) (M' : Meth) : Prop := Jvm.Cond.methodLink own idx (mY M') ∈ P.1 ∧ Jvm.Cond.static (mY M') ∈ P.1 ∧ Jvm.Cond.initialized (mY M').cls ∈ P.1 ∧ Jvm.Cond.code (mY M') (mB M') (mL M') (mT M') ∈ P.1 ∧ ((mY M').cls ≠ "java/lang/invoke/MethodHandle" ∧ (mY M').cls ≠ "java/lang/invoke/VarHandle")
def LinkI (P : PI) (own : String) (idx : Nat) (M' : Meth) : Prop := Jvm.Cond.methodLink own idx (mY M') ∈ P.1 ∧ Jvm.Cond.instanceMethod (mY M') ∈ P.1 ∧ Jvm.Cond.code (mY M') (mB M') (mL M') (mT M') ∈ P.1 ∧ (mY M').cls = cN P.2 ∧ mN M' = 1 ∧ mT M' = none ∧ (mY M').name = "<init>"
variable {M' : Meth} {i idx id : Nat} {as rest : List Value} {rv : Option Value} {ps : List FieldType} {rt : Option FieldType}
theorem cV_call {α b : Nat} {jd : Nat} (hnr : as.all nr = true) (hst : st = as.reverse ++ .ref (jd + 1) :: rest) : cV α b st = as.reverse ++ .ref (b + jd) :: cV α b rest := by
  subst hst
  have h1 : cV α b as.reverse = as.reverse := cV_nr (by rw [List.all_reverse]; exact hnr)
  unfold cV at h1 ⊢
  rw [List.map_append, h1]; rfl
theorem go_virt (lk : LinkV P (mY M).cls idx M') (pd : parseMethodDescriptor (mY M').desc = some ⟨ps, rt⟩) (hn : as.length = ps.length) (hid : id = (cK P.2 + 1) * i + 1) (hst : st = as.reverse ++ .ref id :: rest) (hnr : as.all nr = true) (hrr : rv.all nr = true) (ho : w.2[i]? = some o) (hw' : w' = (w.1, w.2.set i o')) (hC : o'.1 = o.1) (sm : Small M M' rest)
    (d : decode (mB M) pc = .ok (.invokevirtual idx, 3)) (cl : Call P M' (.ref 1 :: as) (none, [o]) (rv, (none, [o']))) (g : Go P M (pc + 3) L (rv.toList ++ rest) w' out) : Go P M pc L st w out :=
  go_ch (fun l Z a0 p e R s1 m args below meth c α b n0 h0 uC uS ok hl T locs cells slots I => by
    subst hw' hid
    obtain ⟨hw, fa, hx, hZ, hown, hc, hml, hret, hnm, hR, hn0, htop, hsz⟩ := ok
    obtain ⟨k1, k2, k3, k4, k5, k6, k7⟩ := lk
    obtain ⟨z1, z2, z3, z4, z5⟩ := sm
    have C := cl l Z a0 [] 0 (b + (cK P.2 + 1) * i) n0 T.heap hw fa (Nat.le_trans hn0 (Nat.le_add_right _ _)) (rep_obj I.2.1 ho) (by rw [k7]; exact Nat.le_refl _) (fun q => by rw [z3] at q; cases q)
    have Bk := backOf (Q := CQ P.2 Z 0 (b + (cK P.2 + 1) * i) n0 T.heap (mN M') (none, [o]) (rv, (none, [o']))) (R := R) (p := p) (e := e) (below := below) (s := s1) (args := args) (len := 3) (W := (rest.map fun v => v.category).sum) C hZ (hw _ k5) (by rw [k6]; exact fa.2.1) (by rw [hR]; exact Nat.le_of_ble_eq_true z4) (by rw [hR]; exact Nat.le_of_ble_eq_true z5)
    have E := (I.2.1.2 i o ho).1
    obtain ⟨cB, kB, q1, q2, q3⟩ := isOf (T := T) hZ rfl E
    obtain ⟨v, vm1, ⟨T2, Lx, kx, nx⟩, -, X2, ⟨L2, hQ, l2, y2, n2⟩, stp⟩ := I.1.virtualBack hx (y := mY M') (z := mY M') hown (mvT hZ (hw _ k1)) (mvT hZ (hw _ k2)) (notFace_of_selects (args := #[]) (mvT hZ (hw _ k3))) (mvT hZ (hw _ k3)) (mvT hZ (hw _ k4)) (by rw [k6]; exact fa.2.2.2.2.2.2) Bk q1 q3 (g := mkF m pc (cL α b L) (cV α b st)) rfl (by show (cL α b L).size = c.maxLocals; rw [cL_size, hl, hml]) (Steps.refl _) (argsL := as) (rest := cV α b rest) (lenOf pd hn) (cV_call hnr hst)
      (by show 2 * 0 + _ ≤ _; rw [cV_sum]; exact Nat.le_of_eq (Nat.zero_add _)) (hb hc d) (fun _ _ => ⟨by rw [show (cV 0 (b + (cK P.2 + 1) * i) (.ref 1 :: as)) = .ref (b + (cK P.2 + 1) * i) :: cV 0 (b + (cK P.2 + 1) * i) as from rfl, cV_nr hnr], rfl, by rw [z1]; exact I.2.2.2.2.2.2.2.1, by rw [z2]; exact I.2.2.2.2.2.2.2.2.1⟩)
    dsimp only [Pt.U, Pt.locs, Pt.cells, Pt.slots] at X2 l2 y2 n2 stp hQ
    subst l2 y2 n2
    obtain ⟨rfl, N2, R2, F2, k8⟩ := hQ
    rw [k7] at F2
    refine ⟨T2, _, _, _, inv_obj I ho X2 N2 R2 F2 k8 (by rw [z1]; exact hC) (by rw [z2]; simp [usedS, hC]) (by rw [z1]; exact I.2.2.2.2.2.2.2.1) (by rw [z2]; exact I.2.2.2.2.2.2.2.2.1), fun target r => stp.trans ?_⟩
    rw [← ret_st (b' := b + (cK P.2 + 1) * i) hrr] at r
    exact r) g
theorem go_priv (lk : LinkP P (mY M).cls idx M') (pd : parseMethodDescriptor (mY M').desc = some ⟨ps, rt⟩) (hn : as.length = ps.length) (hid : id = (cK P.2 + 1) * i + 1) (hst : st = as.reverse ++ .ref id :: rest) (hnr : as.all nr = true) (hrr : rv.all nr = true) (ho : w.2[i]? = some o) (hw' : w' = (w.1, w.2.set i o')) (hC : o'.1 = o.1) (sm : Small M M' rest)
    (d : decode (mB M) pc = .ok (.invokevirtual idx, 3)) (cl : Call P M' (.ref 1 :: as) (none, [o]) (rv, (none, [o']))) (g : Go P M (pc + 3) L (rv.toList ++ rest) w' out) : Go P M pc L st w out :=
  go_ch (fun l Z a0 p e R s1 m args below meth c α b n0 h0 uC uS ok hl T locs cells slots I => by
    subst hw' hid
    obtain ⟨hw, fa, hx, hZ, hown, hc, hml, hret, hnm, hR, hn0, htop, hsz⟩ := ok
    obtain ⟨k1, k4, k3, k5, k6, k7⟩ := lk
    obtain ⟨z1, z2, z3, z4, z5⟩ := sm
    have C := cl l Z a0 [] 0 (b + (cK P.2 + 1) * i) n0 T.heap hw fa (Nat.le_trans hn0 (Nat.le_add_right _ _)) (rep_obj I.2.1 ho) (by rw [k7]; exact Nat.le_refl _) (fun q => by rw [z3] at q; cases q)
    have Bk := backOf (Q := CQ P.2 Z 0 (b + (cK P.2 + 1) * i) n0 T.heap (mN M') (none, [o]) (rv, (none, [o']))) (R := R) (p := p) (e := e) (below := below) (s := s1) (args := args) (len := 3) (W := (rest.map fun v => v.category).sum) C hZ (hw _ k5) (by rw [k6]; exact fa.2.1) (by rw [hR]; exact Nat.le_of_ble_eq_true z4) (by rw [hR]; exact Nat.le_of_ble_eq_true z5)
    obtain ⟨cell, q1, q2⟩ := (I.2.1.2 i o ho).1.cell
    have hy : (mY M').cls ≠ "java/lang/invoke/MethodHandle" ∧ (mY M').cls ≠ "java/lang/invoke/VarHandle" := by rw [k6]; exact fa.2.2.2.2.2.2
    have hpriv : s1.PrivateAt (mY M') := Cond.privateMethod_at (mvP hZ (hw _ k3) (args := #[]))
    have hin : (Jvm.Cond.instanceMethod (mY M')).before args s1 = true := mvT hZ (hw _ k4)
    obtain ⟨c2, kk, i1, i2, i3, i4, -⟩ := Cond.instantiable_spec fa.1
    obtain ⟨k', j1, j2⟩ := hZ.alike.2.2 _ _ i2
    have hsel : (Jvm.Cond.selects (mY M').cls (mY M') (mY M')).before args s1 = true := selects_self_of_private (c := c2) (k := k') (by rw [k6, hZ.alike.findClass]; exact i1) j1 (by
      have : kk.isInterface = false := by simp only [Bool.or_eq_false_iff] at i4; exact i4.1
      rw [j2]; exact this) hpriv hin hy
    obtain ⟨v, vm1, ⟨T2, Lx, kx, nx⟩, -, X2, ⟨L2, hQ, l2, y2, n2⟩, stp⟩ := I.1.privateBack hx (y := mY M') hown (mvT hZ (hw _ k1)) hin hsel hpriv (mvT hZ (hw _ k5)) hy Bk (g := mkF m pc (cL α b L) (cV α b st)) rfl (by show (cL α b L).size = c.maxLocals; rw [cL_size, hl, hml]) (Steps.refl _) (a := b + (cK P.2 + 1) * i) q1 q2 (argsL := as) (rest := cV α b rest) (lenOf pd hn) (cV_call hnr hst)
      (by show 2 * 0 + _ ≤ _; rw [cV_sum]; exact Nat.le_of_eq (Nat.zero_add _)) (hb hc d) (fun _ _ => ⟨by rw [show (cV 0 (b + (cK P.2 + 1) * i) (.ref 1 :: as)) = .ref (b + (cK P.2 + 1) * i) :: cV 0 (b + (cK P.2 + 1) * i) as from rfl, cV_nr hnr], rfl, by rw [z1]; exact I.2.2.2.2.2.2.2.1, by rw [z2]; exact I.2.2.2.2.2.2.2.2.1⟩)
    dsimp only [Pt.U, Pt.locs, Pt.cells, Pt.slots] at X2 l2 y2 n2 stp hQ
    subst l2 y2 n2
    obtain ⟨rfl, N2, R2, F2, k8⟩ := hQ
    rw [k7] at F2
    refine ⟨T2, _, _, _, inv_obj I ho X2 N2 R2 F2 k8 (by rw [z1]; exact hC) (by rw [z2]; simp [usedS, hC]) (by rw [z1]; exact I.2.2.2.2.2.2.2.1) (by rw [z2]; exact I.2.2.2.2.2.2.2.2.1), fun target r => stp.trans ?_⟩
    rw [← ret_st (b' := b + (cK P.2 + 1) * i) hrr] at r
    exact r) g
theorem go_stat (lk : LinkS P (mY M).cls idx M') (pd : parseMethodDescriptor (mY M').desc = some ⟨ps, rt⟩) (hn : as.length = ps.length) (hst : st = as.reverse ++ rest) (hN' : mN M' ≤ mN M ∧ w.2.length ≤ mN M') (hu : usedC w' = usedC w ∧ usedS P.2 w' = usedS P.2 w ∧ w'.2.length = w.2.length) (sm : Small M M' rest)
    (d : decode (mB M) pc = .ok (.invokestatic idx, 3)) (cl : Call P M' as w (rv, w')) (g : Go P M (pc + 3) L (rv.toList ++ rest) w' out) : Go P M pc L st w out :=
  go_ch (fun l Z a0 p e R s1 m args below meth c α b n0 h0 uC uS ok hl T locs cells slots I => by
    obtain ⟨hw, fa, hx, hZ, hown, hc, hml, hret, hnm, hR, hn0, htop, hsz⟩ := ok
    obtain ⟨k1, k2, k3, k5, k6⟩ := lk
    obtain ⟨z1, z2, z3, z4, z5⟩ := sm
    have C := cl l Z a0 [] α b n0 T.heap hw fa hn0 I.2.1 hN'.2 (fun q => by rw [z3] at q; cases q)
    have Bk := backOf (Q := CQ P.2 Z α b n0 T.heap (mN M') w (rv, w')) (R := R) (p := p) (e := e) (below := below) (s := s1) (args := args) (len := 3) (W := (rest.map fun v => v.category).sum) C hZ (hw _ k5) (hw _ k3) (by rw [hR]; exact Nat.le_of_ble_eq_true z4) (by rw [hR]; exact Nat.le_of_ble_eq_true z5)
    obtain ⟨v, vm1, ⟨T2, Lx, kx, nx⟩, -, X2, ⟨L2, hQ, l2, y2, n2⟩, stp⟩ := Jvm.LawKit.callS I.1 hx (y := mY M') hown (mvT hZ (hw _ k1)) (mvT hZ (hw _ k2)) (mvT hZ (hw _ k3)) (mvT hZ (hw _ k5)) k6 Bk (g := mkF m pc (cL α b L) (cV α b st)) rfl (by show (cL α b L).size = c.maxLocals; rw [cL_size, hl, hml]) (argsL := cV α b as) (rest := cV α b rest) (lenOf pd (by simpa [cV] using hn)) (by subst hst; simp [cV])
      (by show 2 * 0 + _ ≤ _; rw [cV_sum]; exact Nat.le_of_eq (Nat.zero_add _)) (hb hc d) (fun _ _ => ⟨rfl, rfl, by rw [z1]; exact I.2.2.2.2.2.2.2.1, by rw [z2]; exact I.2.2.2.2.2.2.2.2.1⟩)
    dsimp only [Pt.U, Pt.locs, Pt.cells, Pt.slots] at X2 l2 y2 n2 stp hQ
    subst l2 y2 n2
    obtain ⟨rfl, N2, R2, F2, k, k8, k9⟩ := hQ
    obtain ⟨X, Rp, Fm, Nl, hs, u1, u2, c1, c2, hN⟩ := I
    rw [z1, z2] at X2
    refine ⟨T2, _, _, _, ⟨X2, R2, Fm.trans (F2.wide (Nat.le_refl _) (by have := Nat.mul_le_mul_left (cK P.2 + 1) hN'.1; omega)), Nl.app N2, ?_, ?_, ?_, c1, c2, by rw [hu.2.2]; exact hN⟩, fun target r => stp target ?_⟩
    · rw [k8]; have := hu.1; simp only at k9; omega
    · rw [hu.1]; exact u1
    · rw [hu.2.1]; exact u2
    · have e1 : cV α b (rv.toList ++ rest) = (rv.map (con α b)).toList ++ cV α b rest := by cases rv <;> rfl
      rw [e1] at r; exact r) g
/-- a constructor, by its contract -/
theorem go_init {k2 : Nat} {s2 : S} (lk : LinkI P (mY M).cls idx M') (pd : parseMethodDescriptor (mY M').desc = some ⟨ps, rt⟩) (hn : as.length = ps.length) (hid : id = (cK P.2 + 1) * i + 1) (hst : st = as.reverse ++ .ref id :: rest) (hnr : as.all nr = true) (ho : w.2[i]? = some (k, s)) (hw' : w' = (w.1, w.2.set i (k2, s2)))
    (hC : k2 = k + (mR M').cells) (hS : usedS P.2 (none, [(k2, s2)]) = usedS P.2 (none, [(k, s)]) + (mR M').slots) (htM : mTop M = true) (hR1 : Nat.ble (usedC w + (mR M').cells) ((mR M).cells + mUC M) = true) (hR2 : Nat.ble (usedS P.2 w + (mR M').slots) ((mR M).slots + mUS M) = true)
    (hq : usedC w = (cK P.2 + 1) * i + usedC (none, [(k, s)]) ∧ usedC (none, [(k, s)]) = mUC M' ∧ usedS P.2 (none, [(k, s)]) = mUS M') (sm : Nat.ble ((mR M').frames + 1) (mR M).frames = true ∧ Nat.ble ((rest.map fun v => v.category).sum + (mL M' + 11) + (mR M').locals) (mR M).locals = true)
    (d : decode (mB M) pc = .ok (.invokespecial idx, 3)) (cl : Call P M' (.ref 1 :: as) (none, [(k, s)]) (none, (none, [(k2, s2)]))) (g : Go P M (pc + 3) L rest w' out) : Go P M pc L st w out :=
  go_ch (fun l Z a0 p e R s1 m args below meth c α b n0 h0 uC uS ok hl T locs cells slots I => by
    subst hw' hid
    obtain ⟨hw, fa, hx, hZ, hown, hc, hml, hret, hnm, hR, hn0, htop, hsz⟩ := ok
    obtain ⟨k1, k4, k5, k6, k7, k9, k10⟩ := lk
    obtain ⟨z4, z5⟩ := sm
    obtain ⟨t1, t2, t3⟩ := htop htM
    have Ic := I.2.2.2.2.2.1
    have Is := I.2.2.2.2.2.2.1
    have b1 : cells + (mR M').cells ≤ R.cells := by have := Nat.le_of_ble_eq_true hR1; rw [hR]; omega
    have b2 : slots + (mR M').slots ≤ R.slots := by have := Nat.le_of_ble_eq_true hR2; rw [hR]; omega
    have C := cl l Z a0 [] 0 (b + (cK P.2 + 1) * i) n0 T.heap hw fa (Nat.le_trans hn0 (Nat.le_add_right _ _)) (rep_obj I.2.1 ho) (by rw [k7]; exact Nat.le_refl _) (fun _ => ⟨by rw [I.2.2.2.2.1]; have := hq.1; omega, hq.2.1, hq.2.2⟩)
    have Bk := backOf (Q := CQ P.2 Z 0 (b + (cK P.2 + 1) * i) n0 T.heap (mN M') (none, [(k, s)]) (none, (none, [(k2, s2)]))) (R := R) (p := p) (e := e) (below := below) (s := s1) (args := args) (len := 3) (W := (rest.map fun v => v.category).sum) C hZ (hw _ k5) (by rw [k6]; exact fa.2.1) (by rw [hR]; exact Nat.le_of_ble_eq_true z4) (by rw [hR]; exact Nat.le_of_ble_eq_true z5)
    have hy : (mY M').cls ≠ "java/lang/invoke/MethodHandle" ∧ (mY M').cls ≠ "java/lang/invoke/VarHandle" := by rw [k6]; exact fa.2.2.2.2.2.2
    have hcd := hw _ k5
    rw [k9] at hcd
    obtain ⟨v, vm1, ⟨T2, Lx, kx, nx⟩, -, X2, ⟨L2, hQ, l2, y2, n2⟩, stp⟩ := I.1.specialBack hx (y := mY M') k10 hown (mvT hZ (hw _ k1)) (mvT hZ (hw _ k4)) (mvT hZ hcd) hy Bk (g := mkF m pc (cL α b L) (cV α b st)) rfl (by show (cL α b L).size = c.maxLocals; rw [cL_size, hl, hml]) (Steps.refl _) (a := b + (cK P.2 + 1) * i) (argsL := as) (rest := cV α b rest) (lenOf pd hn) (cV_call hnr hst)
      (by show 2 * 0 + _ ≤ _; rw [cV_sum]; exact Nat.le_of_eq (Nat.zero_add _)) (hb hc d) (fun _ _ => ⟨by rw [show (cV 0 (b + (cK P.2 + 1) * i) (.ref 1 :: as)) = .ref (b + (cK P.2 + 1) * i) :: cV 0 (b + (cK P.2 + 1) * i) as from rfl, cV_nr hnr], rfl, b1, b2⟩)
    dsimp only [Pt.U, Pt.locs, Pt.cells, Pt.slots] at X2 l2 y2 n2 stp hQ
    subst l2 y2 n2
    obtain ⟨rfl, N2, R2, F2, k8⟩ := hQ
    rw [k7] at F2
    exact ⟨T2, _, _, _, inv_obj I ho X2 N2 R2 F2 k8 hC hS b1 b2, fun target r => stp.trans r⟩) g
/-- Object's constructor -/
theorem go_objinit {a : Nat} (k1 : Jvm.Cond.methodLink (mY M).cls idx Lib.objectInit ∈ P.1) (k2 : Jvm.Cond.instanceMethod Lib.objectInit ∈ P.1) (k3 : Jvm.Cond.code Lib.objectInit ⟨#[0xb1]⟩ 1 none ∈ P.1) (z4 : Nat.ble 1 (mR M).frames = true) (z5 : Nat.ble ((rest.map fun v => v.category).sum + 12) (mR M).locals = true)
    (d : decode (mB M) pc = .ok (.invokespecial idx, 3)) (g : Go P M (pc + 3) L rest w out) : Go P M pc L (.ref (a + 1) :: rest) w out :=
  go_ch (fun l Z a0 p e R s1 m args below meth c α b n0 h0 uC uS ok hl T locs cells slots I => by
    obtain ⟨hw, fa, hx, hZ, hown, hc, hml, hret, hnm, hR, hn0, htop, hsz⟩ := ok
    obtain ⟨X, Rp, Fm, Nl, hs, u1, u2, c1, c2, hN⟩ := I
    obtain ⟨T', X', e', stp⟩ := initO X hx hZ hown (hw _ k1) (hw _ k2) (hw _ k3) rfl (g := mkF m pc (cL α b L) (cV α b (.ref (a + 1) :: rest))) rfl (by show (cL α b L).size = c.maxLocals; rw [cL_size, hl, hml]) (a := b + a) (rest := cV α b rest) rfl (hb hc d) (by rw [hR]; exact Nat.le_of_ble_eq_true z4) (W := (rest.map fun v => v.category).sum) (by show 2 * 0 + _ ≤ _; rw [cV_sum]; exact Nat.le_of_eq (Nat.zero_add _)) (by rw [hR]; exact Nat.le_of_ble_eq_true z5)
    exact ⟨T', locs, cells, slots, ⟨X', by rw [e']; exact Rp, by rw [e']; exact Fm, Nl, by rw [e']; exact hs, u1, u2, c1, c2, hN⟩, fun target r => stp target r⟩) g
/-- a new object of the class -/
theorem go_new {n : Nat} (k1 : Jvm.Cond.classLink (mY M).cls idx (cN P.2) ∈ P.1) (htM : mTop M = true) (hn : w.2.length = n) (hq : usedC w = (cK P.2 + 1) * n) (hw' : w' = (w.1, w.2 ++ [(0, s0)])) (hN' : Nat.blt n (mN M) = true) (hR1 : Nat.ble (usedC w + 1) ((mR M).cells + mUC M) = true) (hR2 : Nat.ble (usedS P.2 w + cF P.2) ((mR M).slots + mUS M) = true)
    (d : decode (mB M) pc = .ok (.new idx, 3)) (hid : id = (cK P.2 + 1) * n + 1) (g : Go P M (pc + 3) L (.ref id :: st) w' out) : Go P M pc L st w out :=
  go_ch (fun l Z a0 p e R s1 m args below meth c α b n0 h0 uC uS ok hl T locs cells slots I => by
    subst hw' hid
    obtain ⟨hw, fa, hx, hZ, hown, hc, hml, hret, hnm, hR, hn0, htop, hsz⟩ := ok
    obtain ⟨X, Rp, Fm, Nl, hs, u1, u2, c1, c2, hN⟩ := I
    obtain ⟨t1, t2, t3⟩ := htop htM
    have b1 : cells + 1 ≤ R.cells := by have := Nat.le_of_ble_eq_true hR1; rw [hR]; omega
    have b2 : slots + cF P.2 ≤ R.slots := by have := Nat.le_of_ble_eq_true hR2; rw [hR]; omega
    obtain ⟨T2, h2, X2, e2, E2, A2, D2, -, st2⟩ := newO X hx hZ hown (hw _ k1) fa.1 fa.2.1 rfl (g := mkF m pc (cL α b L) (cV α b st)) rfl (hb hc d) b1 b2
    have ha : T.heap.size = b + (cK P.2 + 1) * n := by rw [hs, t1]; omega
    rw [ha] at A2 D2 st2
    have sz2 : T2.heap.size = T.heap.size + 1 := by
      have q1 := X2.heapSize
      have q2 : b + (cK P.2 + 1) * n < h2.size := A2.lt
      rw [e2] at q1 ⊢
      omega
    refine ⟨T2, locs, _, _, ⟨X2, ?_, by rw [e2]; exact Fm.ext E2, Nl, by rw [sz2, hs]; omega, ?_, ?_, b1, b2, ?_⟩, fun target r => st2 target ?_⟩
    · rw [e2]
      refine ⟨fun l1 h1 => (Rp.ext E2).1 l1 h1, fun j oj hj => ?_⟩
      by_cases q : j < w.2.length
      · rw [show (w.1, w.2 ++ [(0, s0)]).2 = w.2 ++ [(0, s0)] from rfl, List.getElem?_append_left q] at hj
        exact (Rp.ext E2).2 j oj hj
      · have hj' := get_lt hj
        simp at hj'
        have ej : j = n := by omega
        subst ej
        rw [show (w.1, w.2 ++ [(0, s0)]).2 = w.2 ++ [(0, s0)] from rfl, List.getElem?_append_right (by omega)] at hj
        rw [hn] at hj; simp at hj; subst hj
        refine ⟨A2, fun f x hx => ?_, fun q x hx => ?_, fun q x _ hq => absurd hq (Nat.not_lt_zero _)⟩
        · have := D2 (fa.2.2.1 f x hx).1 (fa.2.2.1 f x hx).2
          rw [fa.2.2.2.2.2.1 f x hx] at this
          exact this
        · have := D2 (fa.2.2.2.1 q x hx).1 (fa.2.2.2.1 q x hx).2
          rw [if_neg (Nat.not_lt_zero _)]
          exact this
    · simp [usedC] at u1 ⊢; omega
    · simp [usedS] at u2 ⊢; omega
    · simp; have : n < mN M := by simpa [Nat.blt_eq] using hN'
      omega
    · exact r) g
/-- a new array, laid into its field at once -/
theorem rep_new {Z : State} {a0 : Array Value} {ci : CI} {h h1 h2 : Heap} {b : Nat} {s s' : S} {k : Nat} {nm ds : String} {ty : FieldType} {cap : Nat} {cl : Cell} (fa : Facts Z a0 ci) (F : Rep1 Z ci h b (k, s)) (hf : (cA ci)[k]? = some (nm, ds, ty, cap)) (E : Ext h h1) (A : Arr Z h1 (b + 1 + k) cl ty) (ec : cl.slots = (arV ty s' k).toArray)
    (Wt : Wr h1 h2 b (Jvm.RoadKit.slotOf Z (cN ci) nm ds) (.ref (b + 1 + k))) (ho : ∀ q' x, (cA ci)[q']? = some x → q' ≠ k → arV x.2.2.1 s' q' = arV x.2.2.1 s q') (ha : gI s' = gI s) (hbb : gL s' = gL s) : Rep1 Z ci h2 b (k + 1, s') := by
  obtain ⟨f1, f2, f3, f4⟩ := F
  obtain ⟨-, -, g1, g2, g3, -⟩ := fa
  have lt := get_lt hf
  refine ⟨(f1.ext E).wr Wt, fun f x hx => ?_, fun q x hx => ?_, fun q x hx hq => ?_⟩
  · have e : scV x.2.2 s' f = scV x.2.2 s f := by unfold scV; split <;> simp [ha, hbb]
    have lt' := get_lt hx
    show Fld Z h2 b (cN ci) x.1 x.2.1 (scV x.2.2 s' f)
    rw [e]
    refine ((f2 f x hx).ext E).other Wt (Or.inr ?_)
    refine slot_ne (g1 f x hx).1 (g2 k _ hf).1 ?_ (g1 f x hx).2 (g2 k _ hf).2
    intro en
    have n1 : ((cS ci).map (fun x => x.1) ++ (cA ci).map (fun x => x.1))[f]? = some x.1 := by rw [List.getElem?_append_left (by simpa using lt')]; simp [hx]
    have n2 : ((cS ci).map (fun x => x.1) ++ (cA ci).map (fun x => x.1))[(cS ci).length + k]? = some nm := by rw [List.getElem?_append_right (by simp)]; simp [hf]
    rw [en] at n1
    obtain ⟨i1, j1⟩ := List.getElem?_eq_some_iff.mp n1
    obtain ⟨i2, j2⟩ := List.getElem?_eq_some_iff.mp n2
    have := (List.getElem_inj g3).mp (j1.trans j2.symm)
    omega
  · by_cases e : q = k
    · subst e
      cases hf.symm.trans hx
      rw [if_pos (show q < (q + 1, s').1 from Nat.lt_succ_self q)]
      exact ((f3 q _ hf).ext E).same Wt
    · have lt' := get_lt hx
      have e2 : (if q < (k + 1, s').1 then Value.ref (b + 1 + q) else Value.null) = (if q < (k, s).1 then Value.ref (b + 1 + q) else Value.null) := by
        show (if q < k + 1 then _ else _) = (if q < k then _ else _)
        by_cases q1 : q < k
        · rw [if_pos q1, if_pos (by omega)]
        · rw [if_neg q1, if_neg (by omega)]
      rw [e2]
      refine ((f3 q x hx).ext E).other Wt (Or.inr ?_)
      refine slot_ne (g2 q x hx).1 (g2 k _ hf).1 ?_ (g2 q x hx).2 (g2 k _ hf).2
      intro en
      have n1 : ((cS ci).map (fun x => x.1) ++ (cA ci).map (fun x => x.1))[(cS ci).length + q]? = some x.1 := by rw [List.getElem?_append_right (by simp)]; simp [hx]
      have n2 : ((cS ci).map (fun x => x.1) ++ (cA ci).map (fun x => x.1))[(cS ci).length + k]? = some nm := by rw [List.getElem?_append_right (by simp)]; simp [hf]
      rw [en] at n1
      obtain ⟨i1, j1⟩ := List.getElem?_eq_some_iff.mp n1
      obtain ⟨i2, j2⟩ := List.getElem?_eq_some_iff.mp n2
      have := (List.getElem_inj g3).mp (j1.trans j2.symm)
      omega
  · by_cases e : q = k
    · subst e
      cases hf.symm.trans hx
      exact ⟨cl, A.other Wt (nq (by omega)), ec⟩
    · obtain ⟨c, B, eb⟩ := f4 q x hx (by have : q < k + 1 := hq; show q < k; omega)
      refine ⟨c, (B.ext E).other Wt (nq (by omega)), eb.trans ?_⟩
      rw [ho q x hx e]
theorem go_newV {aty : ArrayType} {ty : FieldType} {nm ds : String} {cap : Nat} {n : Int32} {s' : S} (hty : newarray.typeOf aty = ty) (ha : (cA P.2)[k]? = some (nm, ds, ty, cap)) (k0 : Jvm.Cond.arrayClass ty ∈ P.1) (k1 : Jvm.Cond.fieldLink (cN P.2) idx (cN P.2) nm ds ∈ P.1) (hM : (mY M).cls = cN P.2)
    (hlays : Jvm.Cond.lays (cN P.2) (cN P.2) nm ds ∈ P.1 ∨ (Jvm.Cond.laysFinal (cN P.2) (cN P.2) nm ds ∈ P.1 ∧ (mY M).name = "<init>")) (htM : mTop M = true) (hp : 0 < mN M) (hn : ¬ n < 0) (hcap : Nat.ble n.toNatClampNeg cap = true) (hbig : Nat.ble (cap * 8) 536870912 = true)
    (hR1 : Nat.ble (1 + k + 1) ((mR M).cells + mUC M) = true) (hR2 : Nat.ble (usedS P.2 (none, [(k, s)]) + cap) ((mR M).slots + mUS M) = true)
    (hv : arV ty s' k = List.replicate n.toNatClampNeg (defaultValue ty)) (hoth : ∀ q' x, (cA P.2)[q']? = some x → q' ≠ k → arV x.2.2.1 s' q' = arV x.2.2.1 s q') (hgI : gI s' = gI s) (hgL : gL s' = gL s)
    (d : decode (mB M) pc = .ok (.newarray aty, 2)) (d2 : decode (mB M) (pc + 2) = .ok (.putfield idx, 3)) (g : Go P M (pc + 5) L st (none, [(k + 1, s')]) out) : Go P M pc L (.int n :: .ref 1 :: st) (none, [(k, s)]) out :=
  go_ch (fun l Z a0 p e R s1 m args below meth c α b n0 h0 uC uS ok hl T locs cells slots I => by
    obtain ⟨hw, fa, hx, hZ, hown, hc, hml, hret, hnm, hR, hn0, htop, hsz⟩ := ok
    obtain ⟨X, Rp, Fm, Nl, hs, u1, u2, c1, c2, hN⟩ := I
    obtain ⟨t1, t2, t3⟩ := htop htM
    have u1' : cells + uC = 1 + k := by simpa [usedC] using u1
    have b1 : cells + 1 ≤ R.cells := by have := Nat.le_of_ble_eq_true hR1; rw [hR]; omega
    have b2 : slots + cap ≤ R.slots := by have := Nat.le_of_ble_eq_true hR2; rw [hR]; omega
    subst hty
    obtain ⟨T2, h2, cA2, X2, e2, E2, A2, st2⟩ := newP X hx hZ (hw _ k0) rfl (g := mkF m pc (cL α b L) (.int n :: .ref b :: cV α b st)) rfl (hb hc d) rfl hn (Nat.le_of_ble_eq_true hcap) (Nat.le_of_ble_eq_true hbig) b1 b2
    have hadr : T.heap.size = b + 1 + k := by rw [hs, t1]; omega
    rw [hadr] at A2 st2
    have sz2 : T2.heap.size = T.heap.size + 1 := by
      have q1 := X2.heapSize
      have q2 : b + 1 + k < h2.size := A2.lt
      rw [e2] at q1 ⊢
      omega
    have Rp1 := rep_one Rp
    have Fd := Rp1.2.2.1 k _ ha
    rw [if_neg (show ¬ k < (k, s).1 from Nat.lt_irrefl k)] at Fd
    rw [hM] at hown
    obtain ⟨T3, h3, X3, e3, Wt, st3⟩ := putF X2 hx hZ hown (host := "") (Or.inl (hw _ k1)) Via.refl e2 (Fd.ext E2) (Rp1.1.ext E2) (hlays.imp (fun q => hw _ q) (fun q => ⟨hw _ q.1, rfl, hnm.trans q.2⟩)) fa.1 (fa.2.2.2.1 k _ ha).2 (v := .ref (b + 1 + k)) rfl rfl (g := mkF m (pc + 2) (cL α b L) (.ref (b + 1 + k) :: .ref b :: cV α b st)) rfl rfl (hb hc d2)
    refine ⟨T3, _, _, _, ⟨X3, rep_mk (by rw [e3]; exact rep_new fa Rp1 ha E2 A2 (by rw [hv]; simp [newA]) Wt hoth hgI hgL), by rw [e3]; exact (Fm.ext E2).wr Wt (Nat.le_refl _) (by have := Nat.mul_le_mul_left (cK P.2 + 1) hp; omega), Fr.snoc X3 Nl hn0, by rw [e3, Wt.size, ← e2, sz2, hs]; omega, by simp [usedC]; omega, ?_, b1, b2, hN⟩, fun target r => st2 target (st3 target r)⟩
    have hk := get_lt ha
    simp only [usedS, List.map_cons, List.map_nil, List.sum_cons, List.sum_nil] at u2 ⊢
    rw [List.take_add_one, List.map_append, List.sum_append, ha]
    simp [List.map_take] at u2 ⊢; omega) g
theorem go_newI {aty : ArrayType} {ty : FieldType} {nm ds : String} {cap : Nat} {n : Int32} (hty : newarray.typeOf aty = ty) (hi : ty = .int ∨ ty = .boolean ∨ ty = .byte) (ha : (cA P.2)[k]? = some (nm, ds, ty, cap)) (k0 : Jvm.Cond.arrayClass ty ∈ P.1) (k1 : Jvm.Cond.fieldLink (cN P.2) idx (cN P.2) nm ds ∈ P.1) (hM : (mY M).cls = cN P.2)
    (hlays : Jvm.Cond.lays (cN P.2) (cN P.2) nm ds ∈ P.1 ∨ (Jvm.Cond.laysFinal (cN P.2) (cN P.2) nm ds ∈ P.1 ∧ (mY M).name = "<init>")) (htM : mTop M = true) (hp : 0 < mN M) (hn : ¬ n < 0) (hcap : Nat.ble n.toNatClampNeg cap = true) (hbig : Nat.ble (cap * 8) 536870912 = true)
    (hR1 : Nat.ble (1 + k + 1) ((mR M).cells + mUC M) = true) (hR2 : Nat.ble (usedS P.2 (none, [(k, s)]) + cap) ((mR M).slots + mUS M) = true)
    (d : decode (mB M) pc = .ok (.newarray aty, 2)) (d2 : decode (mB M) (pc + 2) = .ok (.putfield idx, 3)) (g : Go P M (pc + 5) L st (none, [(k + 1, sA s k (rep n.toNatClampNeg 0))]) out) : Go P M pc L (.int n :: .ref 1 :: st) (none, [(k, s)]) out :=
  go_newV hty ha k0 k1 hM hlays htM hp hn hcap hbig hR1 hR2 (by rcases hi with rfl | rfl | rfl <;> simp [arV, gA_sA, defaultValue, rep]) (fun q' x _ h => arV_sA s k _ _ q' h) rfl rfl d d2 g
theorem go_newJ {nm ds : String} {cap : Nat} {n : Int32} (ha : (cA P.2)[k]? = some (nm, ds, .long, cap)) (k0 : Jvm.Cond.arrayClass .long ∈ P.1) (k1 : Jvm.Cond.fieldLink (cN P.2) idx (cN P.2) nm ds ∈ P.1) (hM : (mY M).cls = cN P.2)
    (hlays : Jvm.Cond.lays (cN P.2) (cN P.2) nm ds ∈ P.1 ∨ (Jvm.Cond.laysFinal (cN P.2) (cN P.2) nm ds ∈ P.1 ∧ (mY M).name = "<init>")) (htM : mTop M = true) (hp : 0 < mN M) (hn : ¬ n < 0) (hcap : Nat.ble n.toNatClampNeg cap = true) (hbig : Nat.ble (cap * 8) 536870912 = true)
    (hR1 : Nat.ble (1 + k + 1) ((mR M).cells + mUC M) = true) (hR2 : Nat.ble (usedS P.2 (none, [(k, s)]) + cap) ((mR M).slots + mUS M) = true)
    (d : decode (mB M) pc = .ok (.newarray .long, 2)) (d2 : decode (mB M) (pc + 2) = .ok (.putfield idx, 3)) (g : Go P M (pc + 5) L st (none, [(k + 1, sB s k (rep n.toNatClampNeg 0))]) out) : Go P M pc L (.int n :: .ref 1 :: st) (none, [(k, s)]) out :=
  go_newV (aty := .long) (ty := .long) rfl ha k0 k1 hM hlays htM hp hn hcap hbig hR1 hR2 (by simp [arV, gB_sB, defaultValue, rep]) (fun q' x _ h => arV_sB s k _ _ q' h) rfl rfl d d2 g
end Rules
/-! ## the start -/
theorem tsw_out {x : Int32} {lo hi : Int} (h1 : -2147483648 ≤ lo) (h2 : hi < 2147483648) (ks : List Int32) (hk : ks = ((List.range (hi - lo + 1).toNat).map fun (j : Nat) => Int32.ofInt (lo + (j : Int)))) (hx : ∀ k ∈ ks, x ≠ k) : x.toInt < lo ∨ x.toInt > hi := by
  by_cases q1 : x.toInt < lo
  · exact Or.inl q1
  by_cases q2 : x.toInt > hi
  · exact Or.inr q2
  refine absurd rfl (hx x ?_)
  rw [hk, List.mem_map]
  refine ⟨(x.toInt - lo).toNat, List.mem_range.mpr (by omega), ?_⟩
  rw [show lo + (((x.toInt - lo).toNat : Nat) : Int) = x.toInt by omega]
  exact Int32.ofInt_toInt x
theorem list_of_array {V : Type} (a : Array V) (f : Nat → V) (h : ∀ j, j < a.size → a[j]? = some (f j)) : a = ((List.range a.size).map f).toArray := by
  apply Array.ext'
  apply List.ext_getElem?
  intro j
  by_cases q : j < a.size
  · simpa [q] using h j q
  · simp [q]
theorem small_len {n : Nat} {k : Int32} (h : n < 2 ^ 31) (q : n.toInt32 ≤ k) : (n : Int) ≤ k.toInt := by
  have e : (Int32.ofNat n).toInt = n := Int32.toInt_ofNat_of_lt h
  have := Int32.le_iff_toInt_le.mp q
  rwa [show n.toInt32.toInt = n from e] at this
theorem script_of {s : State} {args : Array Value} {t : Term} {k : Int32} (hf : Fit s) (h1 : (Cond.arrayOf t .int).value args s none s [] = some true) (h2 : (Cond.le (.length t) (.int k)).value args s none s [] = some true) :
    ∃ (a : Nat) (l : List Int32), t.eval args s none [] s = some (.ref a) ∧ Ar s s.heap a .int (l.map .int) ∧ a < s.heap.size ∧ (l.length : Int) ≤ k.toInt := by
  obtain ⟨a, ev⟩ := arr_v h1
  obtain ⟨c, A⟩ := Arr.start ev h1
  obtain ⟨x, y, ex, ey, -, -⟩ := cmp_v (Or.inr (Or.inr h2))
  obtain ⟨b, cell, e1, e2, e3, ev2⟩ := Jvm.Lib.length_spec ex
  have ea : b = a := by rw [ev] at e1; cases e1; rfl
  have ec : cell = c := by
    have := Arr.fin (Vm.Alike.refl _) A
    rw [ea, this] at e2; cases e2; rfl
  subst ea ec ev2
  obtain ⟨n, en, S⟩ := Scr.start hf A e3
  have hle : cell.slots.size.toInt32 ≤ k := by
    have ek : (Term.int k).eval args s none [] s = some (.int k) := rfl
    simp only [Cond.value, ex, ek] at h2
    simpa using h2
  refine ⟨b, (List.range cell.slots.size).map fun j => atv cell (Int32.ofNat j), ev, ⟨cell, A, ?_⟩, A.lt, ?_⟩
  · rw [List.map_map]
    refine list_of_array cell.slots _ fun j hj => ?_
    have e4 : (Int32.ofNat j).toNatClampNeg = j := by
      have : (Int32.ofNat j).toInt = j := Int32.toInt_ofNat_of_lt (by omega)
      simp [Int32.toNatClampNeg, this]
    have e5 : ¬ (Int32.ofNat j < 0) := by
      rw [Int32.lt_iff_toInt_lt, Int32.toInt_ofNat_of_lt (by omega)]; simp
    have := S.2.2.2 (Int32.ofNat j) (by rw [e4]; rintro (q | q); exact e5 q; omega)
    rw [e4] at this
    exact this
  · simpa using small_len e3 hle
theorem repW_none (Z : State) (ci : CI) (α b : Nat) (h : Heap) : RepW Z ci α b (none, []) h := ⟨fun l hl => (by cases hl), fun i o ho => (by simp at ho)⟩
theorem repW_some {Z : State} {ci : CI} {α b : Nat} {h : Heap} {l : List Int32} (A : Ar Z h α .int (l.map .int)) (q : α < b) : RepW Z ci α b (some l, []) h := ⟨fun l' hl => by cases hl; exact ⟨A, q⟩, fun i o ho => by simp at ho⟩
end Jvm.AM
/-! ## plain lemmas on ints, arrays and updates -/
namespace Jvm.PL
open Jvm.AM
theorem ofNat_toInt {k : Nat} (h : k < 2147483648) : (Int32.ofNat k).toInt = k := Int32.toInt_ofNat_of_lt h
theorem ofNat_lt {k m : Nat} (hk : k < 2147483648) (hm : m < 2147483648) : Int32.ofNat k < Int32.ofNat m ↔ k < m := by
  rw [Int32.lt_iff_toInt_lt, ofNat_toInt hk, ofNat_toInt hm]; omega
theorem lt_lit {k m : Nat} (hk : k < 2147483648) (hm : m < 2147483648 := by decide) : Int32.ofNat k < (OfNat.ofNat m : Int32) ↔ k < m := ofNat_lt hk hm
theorem ofNat_succ (k : Nat) : Int32.ofNat k + 1 = Int32.ofNat (k + 1) := by
  rw [Int32.ofNat_add]; rfl
theorem ofNat_nonneg {k : Nat} (hk : k < 2147483648) : ¬ Int32.ofNat k < 0 := by rw [Int32.lt_iff_toInt_lt, ofNat_toInt hk]; simp
theorem ofNat_clamp {k : Nat} (hk : k < 2147483648) : (Int32.ofNat k).toNatClampNeg = k := by simp [Int32.toNatClampNeg, ofNat_toInt hk]
theorem ix_ofNat {A : Type} (l : List A) {k : Nat} (hk : k < 2147483648) : ix l (Int32.ofNat k) = l[k]? := by
  unfold ix; rw [if_neg (ofNat_nonneg hk), ofNat_clamp hk]
theorem st_ofNat {A : Type} (l : List A) (x : A) {k : Nat} (hk : k < 2147483648) (hl : k < l.length) : Jvm.AM.st l (Int32.ofNat k) x = some (l.set k x) := by
  unfold Jvm.AM.st; rw [if_neg (ofNat_nonneg hk), ofNat_clamp hk, if_pos hl]
theorem toInt_clamp {v : Int32} (h : ¬ v < 0) : (v.toNatClampNeg : Int) = v.toInt := by
  rw [Int32.lt_iff_toInt_lt] at h
  simp only [Int32.toNatClampNeg]
  have : (0 : Int32).toInt = 0 := rfl
  omega
theorem eq_ofNat {v : Int32} (h : ¬ v < 0) : v = Int32.ofNat v.toNatClampNeg ∧ v.toNatClampNeg < 2147483648 := by
  have h1 := toInt_clamp h
  have h2 := v.toInt_lt
  have h3 : v.toNatClampNeg < 2147483648 := by omega
  refine ⟨Int32.toInt_inj.mp ?_, h3⟩
  rw [ofNat_toInt h3]; exact h1.symm
theorem ix_rep {A : Type} {v : Int32} {n : Nat} {x : A} (h0 : ¬ v < 0) (h1 : v < Int32.ofNat n) (hn : n < 2147483648) : ix (rep n x) v = some x := by
  obtain ⟨e, hl⟩ := eq_ofNat h0
  rw [e] at h1 ⊢
  have h2 := (ofNat_lt hl hn).mp h1
  rw [ix_ofNat _ hl, rep_get, if_pos h2]
theorem ix_nat {A : Type} (l : List A) {v : Int32} (h0 : ¬ v < 0) : ix l v = l[v.toNatClampNeg]? := by unfold ix; rw [if_neg h0]
theorem st_nat {A : Type} (l : List A) {v : Int32} {x : A} (h0 : ¬ v < 0) (hl : v.toNatClampNeg < l.length) : Jvm.AM.st l v x = some (l.set v.toNatClampNeg x) := by
  unfold Jvm.AM.st; rw [if_neg h0, if_pos hl]
theorem clamp_lt {v : Int32} {n : Nat} (h0 : ¬ v < 0) (h1 : v < Int32.ofNat n) (hn : n < 2147483648) : v.toNatClampNeg < n := by
  obtain ⟨e, hl⟩ := eq_ofNat h0
  rw [e] at h1
  exact (ofNat_lt hl hn).mp h1
theorem clamp_inj {v w : Int32} (h0 : ¬ v < 0) (h1 : ¬ w < 0) : v.toNatClampNeg = w.toNatClampNeg ↔ v = w := by
  constructor
  · intro h
    have a := toInt_clamp h0
    have b := toInt_clamp h1
    exact Int32.toInt_inj.mp (by omega)
  · intro h; rw [h]
end Jvm.PL
namespace Jvm.PL
open Jvm.AM
/-- all but the named fields and arrays is as it was -/
def Fx (I L A B : List Nat) (s s' : S) : Prop := (∀ f, f ∉ I → gI s' f = gI s f) ∧ (∀ f, f ∉ L → gL s' f = gL s f) ∧ (∀ f, f ∉ A → gA s' f = gA s f) ∧ (∀ f, f ∉ B → gB s' f = gB s f)
theorem Fx.refl (I L A B : List Nat) (s : S) : Fx I L A B s s := ⟨fun _ _ => rfl, fun _ _ => rfl, fun _ _ => rfl, fun _ _ => rfl⟩
theorem Fx.trans {I L A B : List Nat} {s t u : S} (h : Fx I L A B s t) (k : Fx I L A B t u) : Fx I L A B s u :=
  ⟨fun f q => (k.1 f q).trans (h.1 f q), fun f q => (k.2.1 f q).trans (h.2.1 f q), fun f q => (k.2.2.1 f q).trans (h.2.2.1 f q), fun f q => (k.2.2.2 f q).trans (h.2.2.2 f q)⟩
theorem Fx.mono {I L A B I' L' A' B' : List Nat} {s t : S} (h : Fx I L A B s t) (a : ∀ f ∈ I, f ∈ I') (b : ∀ f ∈ L, f ∈ L') (c : ∀ f ∈ A, f ∈ A') (d : ∀ f ∈ B, f ∈ B') : Fx I' L' A' B' s t :=
  ⟨fun f q => h.1 f fun x => q (a f x), fun f q => h.2.1 f fun x => q (b f x), fun f q => h.2.2.1 f fun x => q (c f x), fun f q => h.2.2.2 f fun x => q (d f x)⟩
theorem Fx.sA {I L A B : List Nat} {s t : S} {f : Nat} {l : List Int32} (h : Fx I L A B s t) (hf : f ∈ A) : Fx I L A B s (Jvm.AM.sA t f l) :=
  ⟨fun g q => (gI_sA _ _ _ _).trans (h.1 g q), fun g q => (gL_sA _ _ _ _).trans (h.2.1 g q), fun g q => by rw [gA_sA, if_neg (fun e : g = f => q (e ▸ hf))]; exact h.2.2.1 g q, fun g q => (gB_sA _ _ _ _).trans (h.2.2.2 g q)⟩
theorem Fx.sI {I L A B : List Nat} {s t : S} {f : Nat} {l : Int32} (h : Fx I L A B s t) (hf : f ∈ I) : Fx I L A B s (Jvm.AM.sI t f l) :=
  ⟨fun g q => by rw [gI_sI, if_neg (fun e : g = f => q (e ▸ hf))]; exact h.1 g q, fun g q => (gL_sI _ _ _ _).trans (h.2.1 g q), fun g q => (gA_sI _ _ _ _).trans (h.2.2.1 g q), fun g q => (gB_sI _ _ _ _).trans (h.2.2.2 g q)⟩
theorem Fx.sL {I L A B : List Nat} {s t : S} {f : Nat} {l : Int64} (h : Fx I L A B s t) (hf : f ∈ L) : Fx I L A B s (Jvm.AM.sL t f l) :=
  ⟨fun g q => (gI_sL _ _ _ _).trans (h.1 g q), fun g q => by rw [gL_sL, if_neg (fun e : g = f => q (e ▸ hf))]; exact h.2.1 g q, fun g q => (gA_sL _ _ _ _).trans (h.2.2.1 g q), fun g q => (gB_sL _ _ _ _).trans (h.2.2.2 g q)⟩
theorem Fx.sB {I L A B : List Nat} {s t : S} {f : Nat} {l : List Int64} (h : Fx I L A B s t) (hf : f ∈ B) : Fx I L A B s (Jvm.AM.sB t f l) :=
  ⟨fun g q => (gI_sB _ _ _ _).trans (h.1 g q), fun g q => (gL_sB _ _ _ _).trans (h.2.1 g q), fun g q => (gA_sB _ _ _ _).trans (h.2.2.1 g q), fun g q => by rw [gB_sB, if_neg (fun e : g = f => q (e ▸ hf))]; exact h.2.2.2 g q⟩
theorem ofNat_add' (a b : Nat) : Int32.ofNat a + Int32.ofNat b = Int32.ofNat (a + b) := (Int32.ofNat_add a b).symm
/-- the first k entries are x -/
def Upto {A : Type} (l : List A) (k : Nat) (x : A) : Prop := ∀ i, i < k → l[i]? = some x
theorem Upto.zero {A : Type} (l : List A) (x : A) : Upto l 0 x := fun _ h => absurd h (Nat.not_lt_zero _)
theorem Upto.set {A : Type} {l : List A} {k : Nat} {x : A} (h : Upto l k x) (hk : k < l.length) : Upto (l.set k x) (k + 1) x := fun i hi => by
  by_cases e : i = k
  · subst e; simp [hk]
  · rw [List.getElem?_set_ne (Ne.symm e)]; exact h i (by omega)
theorem Upto.all {A : Type} {l : List A} {k : Nat} {x : A} (h : Upto l k x) (hk : l.length = k) : l = rep k x := by
  apply List.ext_getElem?
  intro i
  rw [rep_get]
  by_cases q : i < k
  · rw [if_pos q]; exact h i q
  · rw [if_neg q, List.getElem?_eq_none (by omega)]
end Jvm.PL
namespace Jvm.PL
open Jvm.AM
/-- a loop by its invariant; m: the turns that are left -/
theorem run_loop {A B : Type} (L : Nat → A → B) (F : A → B) (I : Nat → A → Prop) (h : ∀ n m a, I (m + 1) a → ∃ a', L (n + 1) a = L n a' ∧ I m a') (h0 : ∀ n a, I 0 a → L (n + 1) a = F a) : ∀ m n a, m < n → I m a → ∃ a', L n a = F a' ∧ I 0 a'
  | 0, n + 1, a, _, i => ⟨a, h0 n a i, i⟩
  | m + 1, n + 1, a, q, i => by
    obtain ⟨a', e, i'⟩ := h n m a i
    obtain ⟨a'', e', i''⟩ := run_loop L F I h h0 m n a' (by omega) i'
    exact ⟨a'', e.trans e', i''⟩
/-- 'for k in 0 .. N' -/
theorem run_for {B : Type} (L : Nat → Int32 → S → B) (F : S → B) (N : Nat) (I : Nat → S → Prop) (h : ∀ n k s, k < N → I k s → ∃ s', L (n + 1) (Int32.ofNat k) s = L n (Int32.ofNat (k + 1)) s' ∧ I (k + 1) s') (h0 : ∀ n s, I N s → L (n + 1) (Int32.ofNat N) s = F s) (n : Nat) (s : S) (hn : N < n) (i : I 0 s) :
    ∃ s', L n (Int32.ofNat 0) s = F s' ∧ I N s' := by
  obtain ⟨a, e, k, hk, ea, ia⟩ := run_loop (fun n (a : Int32 × S) => L n a.1 a.2) (fun a => F a.2) (fun m a => ∃ k, k + m = N ∧ a.1 = Int32.ofNat k ∧ I k a.2)
    (fun n m a ⟨k, h1, h2, h3⟩ => by
      obtain ⟨s', e, i'⟩ := h n k a.2 (by omega) h3
      exact ⟨(Int32.ofNat (k + 1), s'), by show L (n + 1) a.1 a.2 = _; rw [h2]; exact e, k + 1, by omega, rfl, i'⟩)
    (fun n a ⟨k, h1, h2, h3⟩ => by
      have : k = N := by omega
      subst this
      show L (n + 1) a.1 a.2 = _; rw [h2]; exact h0 n a.2 h3) N n (Int32.ofNat 0, s) hn ⟨0, by omega, rfl, i⟩
  have : k = N := by omega
  subst this
  exact ⟨a.2, e, ia⟩
end Jvm.PL
namespace Jvm.PL
open Jvm.AM
/-- the end test of a loop over a script -/
theorem len_lt {n k c : Nat} (hn : n ≤ 100000) (hk : k ≤ 100000) (hc : c ≤ 100000) : (n.toInt32 - Int32.ofNat c) < Int32.ofNat k ↔ n < k + c := by
  rw [Int32.lt_iff_toInt_lt, Int32.toInt_sub, show n.toInt32 = Int32.ofNat n from rfl, ofNat_toInt (by omega), ofNat_toInt (by omega), ofNat_toInt (by omega)]
  have : ((n : Int) - c).bmod (2 ^ 32) = n - c := by
    rw [Int.bmod_eq_of_le] <;> omega
  rw [this]; omega
/-- a loop over a script, c entries a turn: it ends in what every way out says -/
theorem run_script {A B : Type} (L : Nat → Int32 → A → B) (c len : Nat) (hc : 0 < c) (P : B → Prop) (I : Nat → A → Prop) (h : ∀ n k a, k + c ≤ len → I k a → P (L (n + 1) (Int32.ofNat k) a) ∨ ∃ a', L (n + 1) (Int32.ofNat k) a = L n (Int32.ofNat (k + c)) a' ∧ I (k + c) a') (h0 : ∀ n k a, k ≤ len → len < k + c → I k a → P (L (n + 1) (Int32.ofNat k) a)) : ∀ n k a, len < n + k → k ≤ len → I k a → P (L n (Int32.ofNat k) a)
  | 0, k, a, hn, hk, i => by omega
  | n + 1, k, a, hn, hk, i => by
    by_cases q : k + c ≤ len
    · rcases h n k a q i with p | ⟨a', e, i'⟩
      · exact p
      · rw [e]; exact run_script L c len hc P I h h0 n (k + c) a' (by omega) q i'
    · exact h0 n k a hk (by omega) i
theorem ix_some {A : Type} (l : List A) {k : Nat} (hk : k < 2147483648) (hl : k < l.length) : ∃ x, ix l (Int32.ofNat k) = some x := ⟨l[k], by rw [ix_ofNat _ hk, List.getElem?_eq_getElem hl]⟩
theorem ofNat_lit (a b : Nat) : Int32.ofNat a + (OfNat.ofNat b : Int32) = Int32.ofNat (a + b) := ofNat_add' a b
end Jvm.PL
namespace Jvm.PL
open Jvm.AM
theorem upd_same {A : Type} (g : Nat → A) (f : Nat) (a b : A) : upd (upd g f a) f b = upd g f b := by
  funext x; unfold upd; by_cases q : x = f <;> simp [q]
theorem upd_comm {A : Type} (g : Nat → A) {f h : Nat} (n : f ≠ h) (a b : A) : upd (upd g f a) h b = upd (upd g h b) f a := by
  funext x; unfold upd
  by_cases q : x = f
  · have : ¬ f = h := n
    simp [q, this]
  · by_cases r : x = h
    · rw [if_pos r, if_neg q, if_pos r]
    · rw [if_neg r, if_neg q, if_neg q, if_neg r]
theorem sA_same (s : S) (f : Nat) (a b : List Int32) : Jvm.AM.sA (Jvm.AM.sA s f a) f b = Jvm.AM.sA s f b := by
  unfold Jvm.AM.sA; simp only [upd_same]
theorem sA_comm (s : S) {f h : Nat} (n : f ≠ h) (a b : List Int32) : Jvm.AM.sA (Jvm.AM.sA s f a) h b = Jvm.AM.sA (Jvm.AM.sA s h b) f a := by
  unfold Jvm.AM.sA; simp only; rw [upd_comm _ n]
end Jvm.PL
/-! ## rows of bits -/
namespace Jvm.PL
open Jvm.AM Jvm.Free
def bt (w : Int32) (y : Nat) : Bool := w.toBitVec.getLsbD y
theorem bt_zero (y : Nat) : bt 0 y = false := by simp [bt]
theorem bt_or (a b : Int32) (y : Nat) : bt (a ||| b) y = (bt a y || bt b y) := by simp [bt]
theorem bt_and (a b : Int32) (y : Nat) : bt (a &&& b) y = (bt a y && bt b y) := by simp [bt]
theorem bt_ge (w : Int32) {y : Nat} (h : 32 ≤ y) : bt w y = false := by unfold bt; exact BitVec.getLsbD_of_ge _ _ h
theorem bt_m1 {y : Nat} (h : y < 32) : bt (-1) y = true := by
  unfold bt
  rw [show (-1 : Int32).toBitVec = BitVec.allOnes 32 from rfl, BitVec.getLsbD_allOnes]
  simp [h]
theorem bt_not (a : Int32) {y : Nat} (h : y < 32) : bt (a ^^^ (-1)) y = !bt a y := by
  have := bt_m1 h
  unfold bt at *
  rw [Int32.toBitVec_xor, BitVec.getLsbD_xor, this]; simp
theorem bt_andn (a b : Int32) (y : Nat) : bt (a &&& (b ^^^ (-1))) y = (bt a y && !bt b y) := by
  rw [bt_and]
  by_cases h : y < 32
  · rw [bt_not b h]
  · rw [bt_ge a (by omega)]; simp
theorem bt_ext {a b : Int32} (h : ∀ y, y < 32 → bt a y = bt b y) : a = b := by
  apply Int32.toBitVec_inj.mp
  apply BitVec.eq_of_getLsbD_eq
  intro i hi
  exact h i hi
theorem bt_eq0 {w : Int32} : w = 0 ↔ ∀ y, y < 32 → bt w y = false := by
  constructor
  · rintro rfl y _; exact bt_zero y
  · intro h; exact bt_ext fun y hy => by rw [h y hy, bt_zero]
theorem ushr_bit (w : Int32) {y : Nat} (hy : y < 32) : (XT.ushr w (Int32.ofNat y)).toBitVec = w.toBitVec >>> y := by
  unfold XT.ushr
  have h1 : ((Int32.ofNat y &&& 31).toUInt32.toBitVec).toNat = y := by
    show ((Int32.ofNat y &&& 31).toBitVec).toNat = y
    rw [Int32.toBitVec_and, BitVec.toNat_and]
    have e1 : (Int32.ofNat y).toBitVec.toNat = y := by
      show (BitVec.ofNat 32 y).toNat = y
      rw [BitVec.toNat_ofNat]; omega
    have e2 : (31 : Int32).toBitVec.toNat = 31 := rfl
    rw [e1, e2, show 31 = 2 ^ 5 - 1 from rfl, Nat.and_two_pow_sub_one_eq_mod]; omega
  show (w.toUInt32 >>> (Int32.ofNat y &&& 31).toUInt32).toBitVec = _
  rw [UInt32.toBitVec_shiftRight]
  show w.toBitVec >>> ((Int32.ofNat y &&& 31).toUInt32.toBitVec % 32) = _
  rw [BitVec.ushiftRight_eq']
  congr 1
  rw [BitVec.toNat_umod, h1]
  show y % 32 = y
  omega
theorem and1 (w : Int32) : (w &&& 1 = 0) ↔ bt w 0 = false := by
  constructor
  · intro h
    have : bt (w &&& 1) 0 = false := by rw [h, bt_zero]
    rw [bt_and] at this
    simpa [show bt 1 0 = true from rfl] using this
  · intro h
    refine bt_ext fun y hy => ?_
    rw [bt_and, bt_zero]
    cases y with
    | zero => rw [h]; rfl
    | succ y =>
      have : bt 1 (y + 1) = false := by
        unfold bt
        show (1#32).getLsbD (y + 1) = false
        simp [BitVec.getLsbD_one]
      rw [this]; simp
theorem test_bit (w : Int32) {y : Nat} (hy : y < 32) : (XT.ushr w (Int32.ofNat y) &&& 1 = 0) ↔ bt w y = false := by
  rw [and1]
  unfold bt
  rw [ushr_bit w hy]; simp
theorem shl_bit {b : Nat} (hb : b < 32) (y : Nat) : bt ((1 : Int32) <<< (Int32.ofNat b &&& 31)) y = decide (y = b) := by
  have h1 : (Int32.ofNat b &&& 31) = Int32.ofNat b := by
    apply Int32.toBitVec_inj.mp
    rw [Int32.toBitVec_and]
    apply BitVec.eq_of_toNat_eq
    rw [BitVec.toNat_and]
    have e1 : (Int32.ofNat b).toBitVec.toNat = b := by
      show (BitVec.ofNat 32 b).toNat = b
      rw [BitVec.toNat_ofNat]; omega
    have e2 : (31 : Int32).toBitVec.toNat = 31 := rfl
    rw [e1, e2, show 31 = 2 ^ 5 - 1 from rfl, Nat.and_two_pow_sub_one_eq_mod]; omega
  rw [h1]
  unfold bt
  have e : ((1 : Int32) <<< Int32.ofNat b).toBitVec = (1#32) <<< b := by
    rw [Int32.toBitVec_shiftLeft]
    show (1#32) <<< ((Int32.ofNat b).toBitVec.smod 32) = _
    have : (Int32.ofNat b).toBitVec.smod 32 = BitVec.ofNat 32 b := by
      have hz : ∀ b : Fin 32, (Int32.ofNat b.val).toBitVec.smod 32 = BitVec.ofNat 32 b.val := by decide
      exact hz ⟨b, hb⟩
    rw [this, BitVec.shiftLeft_eq']
    congr 1
    rw [BitVec.toNat_ofNat]; omega
  rw [e]
  simp only [BitVec.getLsbD_shiftLeft, BitVec.getLsbD_one]
  by_cases h : y = b
  · subst h; simp [hb]
  · simp [h]; omega
end Jvm.PL
namespace Jvm.Pilot.@@N@@
open Jvm Jvm.ClassFile Sem Op Lib Jvm.Free Jvm.Stand Jvm.LawKit Jvm.RoadKit Jvm.AM Jvm.PL Jvm.Pilot.@@N@@.Jvm.D
def ci1 : CI := ("AntiCacheStore", 48, [("rowLimit", "I", .int), ("memLimit", "I", .int), ("tuplesPerBlock", "I", .int), ("failIndex", "I", .int), ("lruHead", "I", .int), ("lruTail", "I", .int), ("rows", "I", .int), ("pendCount", "I", .int), ("seenCount", "I", .int), ("tryFail", "I", .int), ("okCommits", "I", .int)], [("pendKind", "[I", .int, 8), ("pendKey", "[I", .int, 8), ("pendVal", "[I", .int, 8), ("resVal", "[I", .int, 8), ("resFound", "[Z", .boolean, 8), ("idxKey", "[I", .int, 64), ("idxLoc", "[I", .int, 64), ("idxUsed", "[Z", .boolean, 64), ("memKey", "[I", .int, 32), ("memVal", "[I", .int, 32), ("memUsed", "[Z", .boolean, 32), ("lruPrev", "[I", .int, 32), ("lruNext", "[I", .int, 32), ("diskKey", "[I", .int, 256), ("diskVal", "[I", .int, 256), ("diskLive", "[Z", .boolean, 256), ("blockLive", "[I", .int, 64), ("blockUsed", "[Z", .boolean, 64), ("sortedKeys", "[I", .int, 32), ("seenKey", "[I", .int, 8), ("seenVal", "[I", .int, 8), ("seenPresent", "[Z", .boolean, 8), ("wsKey", "[I", .int, 8), ("wsVal", "[I", .int, 8), ("wsPresent", "[Z", .boolean, 8), ("wsOrigVal", "[I", .int, 8), ("wsOrigPresent", "[Z", .boolean, 8), ("tryVal", "[I", .int, 8), ("tryFound", "[Z", .boolean, 8)])
def PP : PI := (tables_1, ci1)
def BIG : Nat := 1000000
def m0 : Meth := (⟨"AntiCacheStore", "clamp", "(III)I"⟩, prog_1_method_16_code, 4, (some .int), { frames := 0, cells := 0, slots := 0, locals := 0 }, 1, false, 0, 0)
def m1 : Meth := (⟨"AntiCacheStore", "<init>", "(III)V"⟩, prog_1_method_1_code, 5, none, { frames := 1, cells := 29, slots := 1400, locals := 16 }, 1, true, 1, 48)
def m2 : Meth := (⟨"AntiCacheStore", "maxRows", "()I"⟩, prog_1_method_15_code, 1, (some .int), { frames := 0, cells := 0, slots := 0, locals := 0 }, 1, false, 0, 0)
def m3 : Meth := (⟨"AntiCacheStore", "rowCount", "()I"⟩, prog_1_method_12_code, 1, (some .int), { frames := 0, cells := 0, slots := 0, locals := 0 }, 1, false, 0, 0)
def m4 : Meth := (⟨"AntiCacheStore", "home", "(I)I"⟩, prog_1_method_38_code, 2, (some .int), { frames := 0, cells := 0, slots := 0, locals := 0 }, 1, false, 0, 0)
def m5 : Meth := (⟨"AntiCacheStore", "hFind", "(I)I"⟩, prog_1_method_39_code, 4, (some .int), { frames := 1, cells := 0, slots := 0, locals := 13 }, 1, false, 0, 0)
def m6 : Meth := (⟨"AntiCacheStore", "get", "(I)I"⟩, prog_1_method_11_code, 3, (some .int), { frames := 2, cells := 0, slots := 0, locals := 28 }, 1, false, 0, 0)
def m7 : Meth := (⟨"AntiCacheStore", "readValue", "(I)I"⟩, prog_1_method_6_code, 2, (some .int), { frames := 0, cells := 0, slots := 0, locals := 0 }, 1, false, 0, 0)
def m8 : Meth := (⟨"AntiCacheStore", "lastFailIndex", "()I"⟩, prog_1_method_8_code, 1, (some .int), { frames := 0, cells := 0, slots := 0, locals := 0 }, 1, false, 0, 0)
def m9 : Meth := (⟨"AntiCacheStore", "commit", "()I"⟩, prog_1_method_5_code, 3, (some .int), { frames := 0, cells := 0, slots := 0, locals := 0 }, 1, false, 0, 0)
def m10 : Meth := (x, code, maxLocals, ret, room_1, 1, true, 0, 0)
theorem ar_0 : (cA PP.2)[0]? = some ("pendKind", "[I", .int, 8) := rfl
theorem ar_1 : (cA PP.2)[1]? = some ("pendKey", "[I", .int, 8) := rfl
theorem ar_2 : (cA PP.2)[2]? = some ("pendVal", "[I", .int, 8) := rfl
theorem ar_3 : (cA PP.2)[3]? = some ("resVal", "[I", .int, 8) := rfl
theorem ar_4 : (cA PP.2)[4]? = some ("resFound", "[Z", .boolean, 8) := rfl
theorem ar_5 : (cA PP.2)[5]? = some ("idxKey", "[I", .int, 64) := rfl
theorem ar_6 : (cA PP.2)[6]? = some ("idxLoc", "[I", .int, 64) := rfl
theorem ar_7 : (cA PP.2)[7]? = some ("idxUsed", "[Z", .boolean, 64) := rfl
theorem ar_8 : (cA PP.2)[8]? = some ("memKey", "[I", .int, 32) := rfl
theorem ar_9 : (cA PP.2)[9]? = some ("memVal", "[I", .int, 32) := rfl
theorem ar_10 : (cA PP.2)[10]? = some ("memUsed", "[Z", .boolean, 32) := rfl
theorem ar_11 : (cA PP.2)[11]? = some ("lruPrev", "[I", .int, 32) := rfl
theorem ar_12 : (cA PP.2)[12]? = some ("lruNext", "[I", .int, 32) := rfl
theorem ar_13 : (cA PP.2)[13]? = some ("diskKey", "[I", .int, 256) := rfl
theorem ar_14 : (cA PP.2)[14]? = some ("diskVal", "[I", .int, 256) := rfl
theorem ar_15 : (cA PP.2)[15]? = some ("diskLive", "[Z", .boolean, 256) := rfl
theorem ar_16 : (cA PP.2)[16]? = some ("blockLive", "[I", .int, 64) := rfl
theorem ar_17 : (cA PP.2)[17]? = some ("blockUsed", "[Z", .boolean, 64) := rfl
theorem ar_18 : (cA PP.2)[18]? = some ("sortedKeys", "[I", .int, 32) := rfl
theorem ar_19 : (cA PP.2)[19]? = some ("seenKey", "[I", .int, 8) := rfl
theorem ar_20 : (cA PP.2)[20]? = some ("seenVal", "[I", .int, 8) := rfl
theorem ar_21 : (cA PP.2)[21]? = some ("seenPresent", "[Z", .boolean, 8) := rfl
theorem ar_22 : (cA PP.2)[22]? = some ("wsKey", "[I", .int, 8) := rfl
theorem ar_23 : (cA PP.2)[23]? = some ("wsVal", "[I", .int, 8) := rfl
theorem ar_24 : (cA PP.2)[24]? = some ("wsPresent", "[Z", .boolean, 8) := rfl
theorem ar_25 : (cA PP.2)[25]? = some ("wsOrigVal", "[I", .int, 8) := rfl
theorem ar_26 : (cA PP.2)[26]? = some ("wsOrigPresent", "[Z", .boolean, 8) := rfl
theorem ar_27 : (cA PP.2)[27]? = some ("tryVal", "[I", .int, 8) := rfl
theorem ar_28 : (cA PP.2)[28]? = some ("tryFound", "[Z", .boolean, 8) := rfl
theorem fa_7 : FldA PP 7 0 .int := ⟨_, _, _, rfl, List.mem_of_getElem? (i := 10) rfl⟩
theorem fa_13 : FldA PP 13 1 .int := ⟨_, _, _, rfl, List.mem_of_getElem? (i := 12) rfl⟩
theorem fa_16 : FldA PP 16 2 .int := ⟨_, _, _, rfl, List.mem_of_getElem? (i := 14) rfl⟩
theorem fa_19 : FldA PP 19 3 .int := ⟨_, _, _, rfl, List.mem_of_getElem? (i := 16) rfl⟩
theorem fa_22 : FldA PP 22 4 .boolean := ⟨_, _, _, rfl, List.mem_of_getElem? (i := 19) rfl⟩
theorem fa_26 : FldA PP 26 5 .int := ⟨_, _, _, rfl, List.mem_of_getElem? (i := 21) rfl⟩
theorem fa_29 : FldA PP 29 6 .int := ⟨_, _, _, rfl, List.mem_of_getElem? (i := 23) rfl⟩
theorem fa_32 : FldA PP 32 7 .boolean := ⟨_, _, _, rfl, List.mem_of_getElem? (i := 25) rfl⟩
theorem fa_35 : FldA PP 35 8 .int := ⟨_, _, _, rfl, List.mem_of_getElem? (i := 27) rfl⟩
theorem fa_38 : FldA PP 38 9 .int := ⟨_, _, _, rfl, List.mem_of_getElem? (i := 29) rfl⟩
theorem fa_41 : FldA PP 41 10 .boolean := ⟨_, _, _, rfl, List.mem_of_getElem? (i := 31) rfl⟩
theorem fa_44 : FldA PP 44 11 .int := ⟨_, _, _, rfl, List.mem_of_getElem? (i := 33) rfl⟩
theorem fa_47 : FldA PP 47 12 .int := ⟨_, _, _, rfl, List.mem_of_getElem? (i := 35) rfl⟩
theorem fa_50 : FldA PP 50 13 .int := ⟨_, _, _, rfl, List.mem_of_getElem? (i := 37) rfl⟩
theorem fa_53 : FldA PP 53 14 .int := ⟨_, _, _, rfl, List.mem_of_getElem? (i := 39) rfl⟩
theorem fa_56 : FldA PP 56 15 .boolean := ⟨_, _, _, rfl, List.mem_of_getElem? (i := 41) rfl⟩
theorem fa_59 : FldA PP 59 16 .int := ⟨_, _, _, rfl, List.mem_of_getElem? (i := 43) rfl⟩
theorem fa_62 : FldA PP 62 17 .boolean := ⟨_, _, _, rfl, List.mem_of_getElem? (i := 45) rfl⟩
theorem fa_65 : FldA PP 65 18 .int := ⟨_, _, _, rfl, List.mem_of_getElem? (i := 47) rfl⟩
theorem fa_68 : FldA PP 68 19 .int := ⟨_, _, _, rfl, List.mem_of_getElem? (i := 49) rfl⟩
theorem fa_71 : FldA PP 71 20 .int := ⟨_, _, _, rfl, List.mem_of_getElem? (i := 51) rfl⟩
theorem fa_74 : FldA PP 74 21 .boolean := ⟨_, _, _, rfl, List.mem_of_getElem? (i := 53) rfl⟩
theorem fa_77 : FldA PP 77 22 .int := ⟨_, _, _, rfl, List.mem_of_getElem? (i := 55) rfl⟩
theorem fa_80 : FldA PP 80 23 .int := ⟨_, _, _, rfl, List.mem_of_getElem? (i := 57) rfl⟩
theorem fa_83 : FldA PP 83 24 .boolean := ⟨_, _, _, rfl, List.mem_of_getElem? (i := 59) rfl⟩
theorem fa_86 : FldA PP 86 25 .int := ⟨_, _, _, rfl, List.mem_of_getElem? (i := 61) rfl⟩
theorem fa_89 : FldA PP 89 26 .boolean := ⟨_, _, _, rfl, List.mem_of_getElem? (i := 63) rfl⟩
theorem fa_92 : FldA PP 92 27 .int := ⟨_, _, _, rfl, List.mem_of_getElem? (i := 65) rfl⟩
theorem fa_95 : FldA PP 95 28 .boolean := ⟨_, _, _, rfl, List.mem_of_getElem? (i := 67) rfl⟩
theorem fs_102 : FldS PP 102 0 .int := ⟨_, _, rfl, List.mem_of_getElem? (i := 73) rfl⟩
theorem fs_106 : FldS PP 106 1 .int := ⟨_, _, rfl, List.mem_of_getElem? (i := 75) rfl⟩
theorem fs_109 : FldS PP 109 2 .int := ⟨_, _, rfl, List.mem_of_getElem? (i := 77) rfl⟩
theorem fs_112 : FldS PP 112 3 .int := ⟨_, _, rfl, List.mem_of_getElem? (i := 79) rfl⟩
theorem fs_115 : FldS PP 115 4 .int := ⟨_, _, rfl, List.mem_of_getElem? (i := 81) rfl⟩
theorem fs_118 : FldS PP 118 5 .int := ⟨_, _, rfl, List.mem_of_getElem? (i := 83) rfl⟩
theorem fs_121 : FldS PP 121 7 .int := ⟨_, _, rfl, List.mem_of_getElem? (i := 126) rfl⟩
theorem fs_124 : FldS PP 124 8 .int := ⟨_, _, rfl, List.mem_of_getElem? (i := 128) rfl⟩
theorem fs_134 : FldS PP 134 9 .int := ⟨_, _, rfl, List.mem_of_getElem? (i := 130) rfl⟩
theorem fs_144 : FldS PP 144 10 .int := ⟨_, _, rfl, List.mem_of_getElem? (i := 132) rfl⟩
theorem fs_154 : FldS PP 154 6 .int := ⟨_, _, rfl, List.mem_of_getElem? (i := 95) rfl⟩
theorem wr_0 (M : Meth) : Wrt PP M 0 := ⟨_, _, _, rfl, Or.inl (List.mem_of_getElem? (i := 74) rfl)⟩
theorem wr_1 (M : Meth) : Wrt PP M 1 := ⟨_, _, _, rfl, Or.inl (List.mem_of_getElem? (i := 76) rfl)⟩
theorem wr_2 (M : Meth) : Wrt PP M 2 := ⟨_, _, _, rfl, Or.inl (List.mem_of_getElem? (i := 78) rfl)⟩
theorem wr_3 (M : Meth) : Wrt PP M 3 := ⟨_, _, _, rfl, Or.inl (List.mem_of_getElem? (i := 80) rfl)⟩
theorem wr_4 (M : Meth) : Wrt PP M 4 := ⟨_, _, _, rfl, Or.inl (List.mem_of_getElem? (i := 82) rfl)⟩
theorem wr_5 (M : Meth) : Wrt PP M 5 := ⟨_, _, _, rfl, Or.inl (List.mem_of_getElem? (i := 84) rfl)⟩
theorem wr_6 (M : Meth) : Wrt PP M 6 := ⟨_, _, _, rfl, Or.inl (List.mem_of_getElem? (i := 96) rfl)⟩
theorem wr_7 (M : Meth) : Wrt PP M 7 := ⟨_, _, _, rfl, Or.inl (List.mem_of_getElem? (i := 127) rfl)⟩
theorem wr_8 (M : Meth) : Wrt PP M 8 := ⟨_, _, _, rfl, Or.inl (List.mem_of_getElem? (i := 129) rfl)⟩
theorem wr_9 (M : Meth) : Wrt PP M 9 := ⟨_, _, _, rfl, Or.inl (List.mem_of_getElem? (i := 131) rfl)⟩
theorem wr_10 (M : Meth) : Wrt PP M 10 := ⟨_, _, _, rfl, Or.inl (List.mem_of_getElem? (i := 133) rfl)⟩
theorem oid_0 : 1 = (cK PP.2 + 1) * 0 + 1 := rfl
theorem pl_0 : plainName "AntiCacheStore" = true := by first | (simp [plainName, overriddenIn]; done) | decide +kernel
theorem pl_1 : plainName "AntiCacheStoreL1" = true := by first | (simp [plainName, overriddenIn]; done) | decide +kernel
theorem hm_0 : (mY m0).cls = cN PP.2 := rfl
theorem hn_0 : 0 < mN m0 := by decide
theorem pd_0 : parseMethodDescriptor (mY m0).desc = some ⟨[.int, .int, .int], (some .int)⟩ := by decide +kernel
theorem hm_1 : (mY m1).cls = cN PP.2 := rfl
theorem hn_1 : 0 < mN m1 := by decide
theorem pd_1 : parseMethodDescriptor (mY m1).desc = some ⟨[.int, .int, .int], none⟩ := by decide +kernel
theorem hm_2 : (mY m2).cls = cN PP.2 := rfl
theorem hn_2 : 0 < mN m2 := by decide
theorem pd_2 : parseMethodDescriptor (mY m2).desc = some ⟨[], (some .int)⟩ := by decide +kernel
theorem hm_3 : (mY m3).cls = cN PP.2 := rfl
theorem hn_3 : 0 < mN m3 := by decide
theorem pd_3 : parseMethodDescriptor (mY m3).desc = some ⟨[], (some .int)⟩ := by decide +kernel
theorem hm_4 : (mY m4).cls = cN PP.2 := rfl
theorem hn_4 : 0 < mN m4 := by decide
theorem pd_4 : parseMethodDescriptor (mY m4).desc = some ⟨[.int], (some .int)⟩ := by decide +kernel
theorem hm_5 : (mY m5).cls = cN PP.2 := rfl
theorem hn_5 : 0 < mN m5 := by decide
theorem pd_5 : parseMethodDescriptor (mY m5).desc = some ⟨[.int], (some .int)⟩ := by decide +kernel
theorem hm_6 : (mY m6).cls = cN PP.2 := rfl
theorem hn_6 : 0 < mN m6 := by decide
theorem pd_6 : parseMethodDescriptor (mY m6).desc = some ⟨[.int], (some .int)⟩ := by decide +kernel
theorem hm_7 : (mY m7).cls = cN PP.2 := rfl
theorem hn_7 : 0 < mN m7 := by decide
theorem pd_7 : parseMethodDescriptor (mY m7).desc = some ⟨[.int], (some .int)⟩ := by decide +kernel
theorem hm_8 : (mY m8).cls = cN PP.2 := rfl
theorem hn_8 : 0 < mN m8 := by decide
theorem pd_8 : parseMethodDescriptor (mY m8).desc = some ⟨[], (some .int)⟩ := by decide +kernel
theorem hm_9 : (mY m9).cls = cN PP.2 := rfl
theorem hn_9 : 0 < mN m9 := by decide
theorem pd_9 : parseMethodDescriptor (mY m9).desc = some ⟨[], (some .int)⟩ := by decide +kernel
theorem hn_10 : 0 < mN m10 := by decide
theorem d0_0 : decode (mB m0) 0 = .ok (.iload_n 1, 1) := by decide +kernel
theorem d0_1 : decode (mB m0) 1 = .ok (.iload_n 2, 1) := by decide +kernel
theorem d0_2 : decode (mB m0) 2 = .ok (.if_icmp .ge 5, 3) := by decide +kernel
theorem d0_5 : decode (mB m0) 5 = .ok (.iload_n 2, 1) := by decide +kernel
theorem d0_6 : decode (mB m0) 6 = .ok (.ireturn, 1) := by decide +kernel
theorem d0_7 : decode (mB m0) 7 = .ok (.iload_n 1, 1) := by decide +kernel
theorem d0_8 : decode (mB m0) 8 = .ok (.iload_n 3, 1) := by decide +kernel
theorem d0_9 : decode (mB m0) 9 = .ok (.if_icmp .le 5, 3) := by decide +kernel
theorem d0_12 : decode (mB m0) 12 = .ok (.iload_n 3, 1) := by decide +kernel
theorem d0_13 : decode (mB m0) 13 = .ok (.ireturn, 1) := by decide +kernel
theorem d0_14 : decode (mB m0) 14 = .ok (.iload_n 1, 1) := by decide +kernel
theorem d0_15 : decode (mB m0) 15 = .ok (.ireturn, 1) := by decide +kernel
theorem d1_0 : decode (mB m1) 0 = .ok (.aload_n 0, 1) := by decide +kernel
theorem d1_1 : decode (mB m1) 1 = .ok (.invokespecial 1, 3) := by decide +kernel
theorem d1_4 : decode (mB m1) 4 = .ok (.aload_n 0, 1) := by decide +kernel
theorem d1_5 : decode (mB m1) 5 = .ok (.bipush 8, 2) := by decide +kernel
theorem d1_7 : decode (mB m1) 7 = .ok (.newarray .int, 2) := by decide +kernel
theorem d1_9 : decode (mB m1) 9 = .ok (.putfield 7, 3) := by decide +kernel
theorem d1_12 : decode (mB m1) 12 = .ok (.aload_n 0, 1) := by decide +kernel
theorem d1_13 : decode (mB m1) 13 = .ok (.bipush 8, 2) := by decide +kernel
theorem d1_15 : decode (mB m1) 15 = .ok (.newarray .int, 2) := by decide +kernel
theorem d1_17 : decode (mB m1) 17 = .ok (.putfield 13, 3) := by decide +kernel
theorem d1_20 : decode (mB m1) 20 = .ok (.aload_n 0, 1) := by decide +kernel
theorem d1_21 : decode (mB m1) 21 = .ok (.bipush 8, 2) := by decide +kernel
theorem d1_23 : decode (mB m1) 23 = .ok (.newarray .int, 2) := by decide +kernel
theorem d1_25 : decode (mB m1) 25 = .ok (.putfield 16, 3) := by decide +kernel
theorem d1_28 : decode (mB m1) 28 = .ok (.aload_n 0, 1) := by decide +kernel
theorem d1_29 : decode (mB m1) 29 = .ok (.bipush 8, 2) := by decide +kernel
theorem d1_31 : decode (mB m1) 31 = .ok (.newarray .int, 2) := by decide +kernel
theorem d1_33 : decode (mB m1) 33 = .ok (.putfield 19, 3) := by decide +kernel
theorem d1_36 : decode (mB m1) 36 = .ok (.aload_n 0, 1) := by decide +kernel
theorem d1_37 : decode (mB m1) 37 = .ok (.bipush 8, 2) := by decide +kernel
theorem d1_39 : decode (mB m1) 39 = .ok (.newarray .boolean, 2) := by decide +kernel
theorem d1_41 : decode (mB m1) 41 = .ok (.putfield 22, 3) := by decide +kernel
theorem d1_44 : decode (mB m1) 44 = .ok (.aload_n 0, 1) := by decide +kernel
theorem d1_45 : decode (mB m1) 45 = .ok (.bipush 64, 2) := by decide +kernel
theorem d1_47 : decode (mB m1) 47 = .ok (.newarray .int, 2) := by decide +kernel
theorem d1_49 : decode (mB m1) 49 = .ok (.putfield 26, 3) := by decide +kernel
theorem d1_52 : decode (mB m1) 52 = .ok (.aload_n 0, 1) := by decide +kernel
theorem d1_53 : decode (mB m1) 53 = .ok (.bipush 64, 2) := by decide +kernel
theorem d1_55 : decode (mB m1) 55 = .ok (.newarray .int, 2) := by decide +kernel
theorem d1_57 : decode (mB m1) 57 = .ok (.putfield 29, 3) := by decide +kernel
theorem d1_60 : decode (mB m1) 60 = .ok (.aload_n 0, 1) := by decide +kernel
theorem d1_61 : decode (mB m1) 61 = .ok (.bipush 64, 2) := by decide +kernel
theorem d1_63 : decode (mB m1) 63 = .ok (.newarray .boolean, 2) := by decide +kernel
theorem d1_65 : decode (mB m1) 65 = .ok (.putfield 32, 3) := by decide +kernel
theorem d1_68 : decode (mB m1) 68 = .ok (.aload_n 0, 1) := by decide +kernel
theorem d1_69 : decode (mB m1) 69 = .ok (.bipush 32, 2) := by decide +kernel
theorem d1_71 : decode (mB m1) 71 = .ok (.newarray .int, 2) := by decide +kernel
theorem d1_73 : decode (mB m1) 73 = .ok (.putfield 35, 3) := by decide +kernel
theorem d1_76 : decode (mB m1) 76 = .ok (.aload_n 0, 1) := by decide +kernel
theorem d1_77 : decode (mB m1) 77 = .ok (.bipush 32, 2) := by decide +kernel
theorem d1_79 : decode (mB m1) 79 = .ok (.newarray .int, 2) := by decide +kernel
theorem d1_81 : decode (mB m1) 81 = .ok (.putfield 38, 3) := by decide +kernel
theorem d1_84 : decode (mB m1) 84 = .ok (.aload_n 0, 1) := by decide +kernel
theorem d1_85 : decode (mB m1) 85 = .ok (.bipush 32, 2) := by decide +kernel
theorem d1_87 : decode (mB m1) 87 = .ok (.newarray .boolean, 2) := by decide +kernel
theorem d1_89 : decode (mB m1) 89 = .ok (.putfield 41, 3) := by decide +kernel
theorem d1_92 : decode (mB m1) 92 = .ok (.aload_n 0, 1) := by decide +kernel
theorem d1_93 : decode (mB m1) 93 = .ok (.bipush 32, 2) := by decide +kernel
theorem d1_95 : decode (mB m1) 95 = .ok (.newarray .int, 2) := by decide +kernel
theorem d1_97 : decode (mB m1) 97 = .ok (.putfield 44, 3) := by decide +kernel
theorem d1_100 : decode (mB m1) 100 = .ok (.aload_n 0, 1) := by decide +kernel
theorem d1_101 : decode (mB m1) 101 = .ok (.bipush 32, 2) := by decide +kernel
theorem d1_103 : decode (mB m1) 103 = .ok (.newarray .int, 2) := by decide +kernel
theorem d1_105 : decode (mB m1) 105 = .ok (.putfield 47, 3) := by decide +kernel
theorem d1_108 : decode (mB m1) 108 = .ok (.aload_n 0, 1) := by decide +kernel
theorem d1_109 : decode (mB m1) 109 = .ok (.sipush 256, 3) := by decide +kernel
theorem d1_112 : decode (mB m1) 112 = .ok (.newarray .int, 2) := by decide +kernel
theorem d1_114 : decode (mB m1) 114 = .ok (.putfield 50, 3) := by decide +kernel
theorem d1_117 : decode (mB m1) 117 = .ok (.aload_n 0, 1) := by decide +kernel
theorem d1_118 : decode (mB m1) 118 = .ok (.sipush 256, 3) := by decide +kernel
theorem d1_121 : decode (mB m1) 121 = .ok (.newarray .int, 2) := by decide +kernel
theorem d1_123 : decode (mB m1) 123 = .ok (.putfield 53, 3) := by decide +kernel
theorem d1_126 : decode (mB m1) 126 = .ok (.aload_n 0, 1) := by decide +kernel
theorem d1_127 : decode (mB m1) 127 = .ok (.sipush 256, 3) := by decide +kernel
theorem d1_130 : decode (mB m1) 130 = .ok (.newarray .boolean, 2) := by decide +kernel
theorem d1_132 : decode (mB m1) 132 = .ok (.putfield 56, 3) := by decide +kernel
theorem d1_135 : decode (mB m1) 135 = .ok (.aload_n 0, 1) := by decide +kernel
theorem d1_136 : decode (mB m1) 136 = .ok (.bipush 64, 2) := by decide +kernel
theorem d1_138 : decode (mB m1) 138 = .ok (.newarray .int, 2) := by decide +kernel
theorem d1_140 : decode (mB m1) 140 = .ok (.putfield 59, 3) := by decide +kernel
theorem d1_143 : decode (mB m1) 143 = .ok (.aload_n 0, 1) := by decide +kernel
theorem d1_144 : decode (mB m1) 144 = .ok (.bipush 64, 2) := by decide +kernel
theorem d1_146 : decode (mB m1) 146 = .ok (.newarray .boolean, 2) := by decide +kernel
theorem d1_148 : decode (mB m1) 148 = .ok (.putfield 62, 3) := by decide +kernel
theorem d1_151 : decode (mB m1) 151 = .ok (.aload_n 0, 1) := by decide +kernel
theorem d1_152 : decode (mB m1) 152 = .ok (.bipush 32, 2) := by decide +kernel
theorem d1_154 : decode (mB m1) 154 = .ok (.newarray .int, 2) := by decide +kernel
theorem d1_156 : decode (mB m1) 156 = .ok (.putfield 65, 3) := by decide +kernel
theorem d1_159 : decode (mB m1) 159 = .ok (.aload_n 0, 1) := by decide +kernel
theorem d1_160 : decode (mB m1) 160 = .ok (.bipush 8, 2) := by decide +kernel
theorem d1_162 : decode (mB m1) 162 = .ok (.newarray .int, 2) := by decide +kernel
theorem d1_164 : decode (mB m1) 164 = .ok (.putfield 68, 3) := by decide +kernel
theorem d1_167 : decode (mB m1) 167 = .ok (.aload_n 0, 1) := by decide +kernel
theorem d1_168 : decode (mB m1) 168 = .ok (.bipush 8, 2) := by decide +kernel
theorem d1_170 : decode (mB m1) 170 = .ok (.newarray .int, 2) := by decide +kernel
theorem d1_172 : decode (mB m1) 172 = .ok (.putfield 71, 3) := by decide +kernel
theorem d1_175 : decode (mB m1) 175 = .ok (.aload_n 0, 1) := by decide +kernel
theorem d1_176 : decode (mB m1) 176 = .ok (.bipush 8, 2) := by decide +kernel
theorem d1_178 : decode (mB m1) 178 = .ok (.newarray .boolean, 2) := by decide +kernel
theorem d1_180 : decode (mB m1) 180 = .ok (.putfield 74, 3) := by decide +kernel
theorem d1_183 : decode (mB m1) 183 = .ok (.aload_n 0, 1) := by decide +kernel
theorem d1_184 : decode (mB m1) 184 = .ok (.bipush 8, 2) := by decide +kernel
theorem d1_186 : decode (mB m1) 186 = .ok (.newarray .int, 2) := by decide +kernel
theorem d1_188 : decode (mB m1) 188 = .ok (.putfield 77, 3) := by decide +kernel
theorem d1_191 : decode (mB m1) 191 = .ok (.aload_n 0, 1) := by decide +kernel
theorem d1_192 : decode (mB m1) 192 = .ok (.bipush 8, 2) := by decide +kernel
theorem d1_194 : decode (mB m1) 194 = .ok (.newarray .int, 2) := by decide +kernel
theorem d1_196 : decode (mB m1) 196 = .ok (.putfield 80, 3) := by decide +kernel
theorem d1_199 : decode (mB m1) 199 = .ok (.aload_n 0, 1) := by decide +kernel
theorem d1_200 : decode (mB m1) 200 = .ok (.bipush 8, 2) := by decide +kernel
theorem d1_202 : decode (mB m1) 202 = .ok (.newarray .boolean, 2) := by decide +kernel
theorem d1_204 : decode (mB m1) 204 = .ok (.putfield 83, 3) := by decide +kernel
theorem d1_207 : decode (mB m1) 207 = .ok (.aload_n 0, 1) := by decide +kernel
theorem d1_208 : decode (mB m1) 208 = .ok (.bipush 8, 2) := by decide +kernel
theorem d1_210 : decode (mB m1) 210 = .ok (.newarray .int, 2) := by decide +kernel
theorem d1_212 : decode (mB m1) 212 = .ok (.putfield 86, 3) := by decide +kernel
theorem d1_215 : decode (mB m1) 215 = .ok (.aload_n 0, 1) := by decide +kernel
theorem d1_216 : decode (mB m1) 216 = .ok (.bipush 8, 2) := by decide +kernel
theorem d1_218 : decode (mB m1) 218 = .ok (.newarray .boolean, 2) := by decide +kernel
theorem d1_220 : decode (mB m1) 220 = .ok (.putfield 89, 3) := by decide +kernel
theorem d1_223 : decode (mB m1) 223 = .ok (.aload_n 0, 1) := by decide +kernel
theorem d1_224 : decode (mB m1) 224 = .ok (.bipush 8, 2) := by decide +kernel
theorem d1_226 : decode (mB m1) 226 = .ok (.newarray .int, 2) := by decide +kernel
theorem d1_228 : decode (mB m1) 228 = .ok (.putfield 92, 3) := by decide +kernel
theorem d1_231 : decode (mB m1) 231 = .ok (.aload_n 0, 1) := by decide +kernel
theorem d1_232 : decode (mB m1) 232 = .ok (.bipush 8, 2) := by decide +kernel
theorem d1_234 : decode (mB m1) 234 = .ok (.newarray .boolean, 2) := by decide +kernel
theorem d1_236 : decode (mB m1) 236 = .ok (.putfield 95, 3) := by decide +kernel
theorem d1_239 : decode (mB m1) 239 = .ok (.aload_n 0, 1) := by decide +kernel
theorem d1_240 : decode (mB m1) 240 = .ok (.aload_n 0, 1) := by decide +kernel
theorem d1_241 : decode (mB m1) 241 = .ok (.iload_n 1, 1) := by decide +kernel
theorem d1_242 : decode (mB m1) 242 = .ok (.bipush 8, 2) := by decide +kernel
theorem d1_244 : decode (mB m1) 244 = .ok (.bipush 32, 2) := by decide +kernel
theorem d1_246 : decode (mB m1) 246 = .ok (.invokevirtual 98, 3) := by decide +kernel
theorem d1_249 : decode (mB m1) 249 = .ok (.putfield 102, 3) := by decide +kernel
theorem d1_252 : decode (mB m1) 252 = .ok (.aload_n 0, 1) := by decide +kernel
theorem d1_253 : decode (mB m1) 253 = .ok (.aload_n 0, 1) := by decide +kernel
theorem d1_254 : decode (mB m1) 254 = .ok (.iload_n 2, 1) := by decide +kernel
theorem d1_255 : decode (mB m1) 255 = .ok (.iconst 4, 1) := by decide +kernel
theorem d1_256 : decode (mB m1) 256 = .ok (.bipush 16, 2) := by decide +kernel
theorem d1_258 : decode (mB m1) 258 = .ok (.invokevirtual 98, 3) := by decide +kernel
theorem d1_261 : decode (mB m1) 261 = .ok (.putfield 106, 3) := by decide +kernel
theorem d1_264 : decode (mB m1) 264 = .ok (.aload_n 0, 1) := by decide +kernel
theorem d1_265 : decode (mB m1) 265 = .ok (.aload_n 0, 1) := by decide +kernel
theorem d1_266 : decode (mB m1) 266 = .ok (.iload_n 3, 1) := by decide +kernel
theorem d1_267 : decode (mB m1) 267 = .ok (.iconst 2, 1) := by decide +kernel
theorem d1_268 : decode (mB m1) 268 = .ok (.iconst 4, 1) := by decide +kernel
theorem d1_269 : decode (mB m1) 269 = .ok (.invokevirtual 98, 3) := by decide +kernel
theorem d1_272 : decode (mB m1) 272 = .ok (.putfield 109, 3) := by decide +kernel
theorem d1_275 : decode (mB m1) 275 = .ok (.aload_n 0, 1) := by decide +kernel
theorem d1_276 : decode (mB m1) 276 = .ok (.iconst (-1), 1) := by decide +kernel
theorem d1_277 : decode (mB m1) 277 = .ok (.putfield 112, 3) := by decide +kernel
theorem d1_280 : decode (mB m1) 280 = .ok (.aload_n 0, 1) := by decide +kernel
theorem d1_281 : decode (mB m1) 281 = .ok (.iconst (-1), 1) := by decide +kernel
theorem d1_282 : decode (mB m1) 282 = .ok (.putfield 115, 3) := by decide +kernel
theorem d1_285 : decode (mB m1) 285 = .ok (.aload_n 0, 1) := by decide +kernel
theorem d1_286 : decode (mB m1) 286 = .ok (.iconst (-1), 1) := by decide +kernel
theorem d1_287 : decode (mB m1) 287 = .ok (.putfield 118, 3) := by decide +kernel
theorem d1_290 : decode (mB m1) 290 = .ok (.iconst 0, 1) := by decide +kernel
theorem d1_291 : decode (mB m1) 291 = .ok (.istore 4, 2) := by decide +kernel
theorem d1_293 : decode (mB m1) 293 = .ok (.iload 4, 2) := by decide +kernel
theorem d1_295 : decode (mB m1) 295 = .ok (.bipush 32, 2) := by decide +kernel
theorem d1_297 : decode (mB m1) 297 = .ok (.if_icmp .ge 25, 3) := by decide +kernel
theorem d1_300 : decode (mB m1) 300 = .ok (.aload_n 0, 1) := by decide +kernel
theorem d1_301 : decode (mB m1) 301 = .ok (.getfield 44, 3) := by decide +kernel
theorem d1_304 : decode (mB m1) 304 = .ok (.iload 4, 2) := by decide +kernel
theorem d1_306 : decode (mB m1) 306 = .ok (.iconst (-1), 1) := by decide +kernel
theorem d1_307 : decode (mB m1) 307 = .ok (.iastore, 1) := by decide +kernel
theorem d1_308 : decode (mB m1) 308 = .ok (.aload_n 0, 1) := by decide +kernel
theorem d1_309 : decode (mB m1) 309 = .ok (.getfield 47, 3) := by decide +kernel
theorem d1_312 : decode (mB m1) 312 = .ok (.iload 4, 2) := by decide +kernel
theorem d1_314 : decode (mB m1) 314 = .ok (.iconst (-1), 1) := by decide +kernel
theorem d1_315 : decode (mB m1) 315 = .ok (.iastore, 1) := by decide +kernel
theorem d1_316 : decode (mB m1) 316 = .ok (.iinc 4 1, 3) := by decide +kernel
theorem d1_319 : decode (mB m1) 319 = .ok (.goto (-26), 3) := by decide +kernel
theorem d1_322 : decode (mB m1) 322 = .ok (.return_, 1) := by decide +kernel
theorem d2_0 : decode (mB m2) 0 = .ok (.aload_n 0, 1) := by decide +kernel
theorem d2_1 : decode (mB m2) 1 = .ok (.getfield 102, 3) := by decide +kernel
theorem d2_4 : decode (mB m2) 4 = .ok (.ireturn, 1) := by decide +kernel
theorem d3_0 : decode (mB m3) 0 = .ok (.aload_n 0, 1) := by decide +kernel
theorem d3_1 : decode (mB m3) 1 = .ok (.getfield 154, 3) := by decide +kernel
theorem d3_4 : decode (mB m3) 4 = .ok (.ireturn, 1) := by decide +kernel
theorem d4_0 : decode (mB m4) 0 = .ok (.iload_n 1, 1) := by decide +kernel
theorem d4_1 : decode (mB m4) 1 = .ok (.ldc_w 258, 3) := by decide +kernel
theorem d4_4 : decode (mB m4) 4 = .ok (.imul, 1) := by decide +kernel
theorem d4_5 : decode (mB m4) 5 = .ok (.bipush 26, 2) := by decide +kernel
theorem d4_7 : decode (mB m4) 7 = .ok (.iushr, 1) := by decide +kernel
theorem d4_8 : decode (mB m4) 8 = .ok (.ireturn, 1) := by decide +kernel
theorem d5_0 : decode (mB m5) 0 = .ok (.aload_n 0, 1) := by decide +kernel
theorem d5_1 : decode (mB m5) 1 = .ok (.iload_n 1, 1) := by decide +kernel
theorem d5_2 : decode (mB m5) 2 = .ok (.invokevirtual 259, 3) := by decide +kernel
theorem d5_5 : decode (mB m5) 5 = .ok (.bipush 63, 2) := by decide +kernel
theorem d5_7 : decode (mB m5) 7 = .ok (.iand, 1) := by decide +kernel
theorem d5_8 : decode (mB m5) 8 = .ok (.istore_n 2, 1) := by decide +kernel
theorem d5_9 : decode (mB m5) 9 = .ok (.iconst 0, 1) := by decide +kernel
theorem d5_10 : decode (mB m5) 10 = .ok (.istore_n 3, 1) := by decide +kernel
theorem d5_11 : decode (mB m5) 11 = .ok (.iload_n 3, 1) := by decide +kernel
theorem d5_12 : decode (mB m5) 12 = .ok (.bipush 64, 2) := by decide +kernel
theorem d5_14 : decode (mB m5) 14 = .ok (.if_icmp .ge 39, 3) := by decide +kernel
theorem d5_17 : decode (mB m5) 17 = .ok (.aload_n 0, 1) := by decide +kernel
theorem d5_18 : decode (mB m5) 18 = .ok (.getfield 32, 3) := by decide +kernel
theorem d5_21 : decode (mB m5) 21 = .ok (.iload_n 2, 1) := by decide +kernel
theorem d5_22 : decode (mB m5) 22 = .ok (.baload, 1) := by decide +kernel
theorem d5_23 : decode (mB m5) 23 = .ok (.ifCond .ne 5, 3) := by decide +kernel
theorem d5_26 : decode (mB m5) 26 = .ok (.iconst (-1), 1) := by decide +kernel
theorem d5_27 : decode (mB m5) 27 = .ok (.ireturn, 1) := by decide +kernel
theorem d5_28 : decode (mB m5) 28 = .ok (.aload_n 0, 1) := by decide +kernel
theorem d5_29 : decode (mB m5) 29 = .ok (.getfield 26, 3) := by decide +kernel
theorem d5_32 : decode (mB m5) 32 = .ok (.iload_n 2, 1) := by decide +kernel
theorem d5_33 : decode (mB m5) 33 = .ok (.iaload, 1) := by decide +kernel
theorem d5_34 : decode (mB m5) 34 = .ok (.iload_n 1, 1) := by decide +kernel
theorem d5_35 : decode (mB m5) 35 = .ok (.if_icmp .ne 5, 3) := by decide +kernel
theorem d5_38 : decode (mB m5) 38 = .ok (.iload_n 2, 1) := by decide +kernel
theorem d5_39 : decode (mB m5) 39 = .ok (.ireturn, 1) := by decide +kernel
theorem d5_40 : decode (mB m5) 40 = .ok (.iload_n 2, 1) := by decide +kernel
theorem d5_41 : decode (mB m5) 41 = .ok (.iconst 1, 1) := by decide +kernel
theorem d5_42 : decode (mB m5) 42 = .ok (.iadd, 1) := by decide +kernel
theorem d5_43 : decode (mB m5) 43 = .ok (.bipush 63, 2) := by decide +kernel
theorem d5_45 : decode (mB m5) 45 = .ok (.iand, 1) := by decide +kernel
theorem d5_46 : decode (mB m5) 46 = .ok (.istore_n 2, 1) := by decide +kernel
theorem d5_47 : decode (mB m5) 47 = .ok (.iinc 3 1, 3) := by decide +kernel
theorem d5_50 : decode (mB m5) 50 = .ok (.goto (-39), 3) := by decide +kernel
theorem d5_53 : decode (mB m5) 53 = .ok (.iconst (-1), 1) := by decide +kernel
theorem d5_54 : decode (mB m5) 54 = .ok (.ireturn, 1) := by decide +kernel
theorem d6_0 : decode (mB m6) 0 = .ok (.aload_n 0, 1) := by decide +kernel
theorem d6_1 : decode (mB m6) 1 = .ok (.iload_n 1, 1) := by decide +kernel
theorem d6_2 : decode (mB m6) 2 = .ok (.invokevirtual 147, 3) := by decide +kernel
theorem d6_5 : decode (mB m6) 5 = .ok (.istore_n 2, 1) := by decide +kernel
theorem d6_6 : decode (mB m6) 6 = .ok (.iload_n 2, 1) := by decide +kernel
theorem d6_7 : decode (mB m6) 7 = .ok (.ifCond .ge 5, 3) := by decide +kernel
theorem d6_10 : decode (mB m6) 10 = .ok (.iconst 0, 1) := by decide +kernel
theorem d6_11 : decode (mB m6) 11 = .ok (.ireturn, 1) := by decide +kernel
theorem d6_12 : decode (mB m6) 12 = .ok (.aload_n 0, 1) := by decide +kernel
theorem d6_13 : decode (mB m6) 13 = .ok (.iload_n 2, 1) := by decide +kernel
theorem d7_0 : decode (mB m7) 0 = .ok (.iload_n 1, 1) := by decide +kernel
theorem d7_1 : decode (mB m7) 1 = .ok (.ifCond .lt 9, 3) := by decide +kernel
theorem d7_4 : decode (mB m7) 4 = .ok (.iload_n 1, 1) := by decide +kernel
theorem d7_5 : decode (mB m7) 5 = .ok (.bipush 8, 2) := by decide +kernel
theorem d7_7 : decode (mB m7) 7 = .ok (.if_icmp .lt 5, 3) := by decide +kernel
theorem d7_10 : decode (mB m7) 10 = .ok (.iconst 0, 1) := by decide +kernel
theorem d7_11 : decode (mB m7) 11 = .ok (.ireturn, 1) := by decide +kernel
theorem d7_12 : decode (mB m7) 12 = .ok (.aload_n 0, 1) := by decide +kernel
theorem d7_13 : decode (mB m7) 13 = .ok (.getfield 19, 3) := by decide +kernel
theorem d7_16 : decode (mB m7) 16 = .ok (.iload_n 1, 1) := by decide +kernel
theorem d7_17 : decode (mB m7) 17 = .ok (.iaload, 1) := by decide +kernel
theorem d7_18 : decode (mB m7) 18 = .ok (.ireturn, 1) := by decide +kernel
theorem d8_0 : decode (mB m8) 0 = .ok (.aload_n 0, 1) := by decide +kernel
theorem d8_1 : decode (mB m8) 1 = .ok (.getfield 112, 3) := by decide +kernel
theorem d8_4 : decode (mB m8) 4 = .ok (.ireturn, 1) := by decide +kernel
theorem d9_0 : decode (mB m9) 0 = .ok (.aload_n 0, 1) := by decide +kernel
theorem d9_1 : decode (mB m9) 1 = .ok (.getfield 121, 3) := by decide +kernel
theorem d9_4 : decode (mB m9) 4 = .ok (.ifCond .gt 5, 3) := by decide +kernel
theorem d9_7 : decode (mB m9) 7 = .ok (.iconst 1, 1) := by decide +kernel
theorem d9_8 : decode (mB m9) 8 = .ok (.ireturn, 1) := by decide +kernel
theorem d9_9 : decode (mB m9) 9 = .ok (.aload_n 0, 1) := by decide +kernel
theorem d9_10 : decode (mB m9) 10 = .ok (.getfield 121, 3) := by decide +kernel
theorem d9_13 : decode (mB m9) 13 = .ok (.istore_n 1, 1) := by decide +kernel
theorem d9_14 : decode (mB m9) 14 = .ok (.aload_n 0, 1) := by decide +kernel
theorem d9_15 : decode (mB m9) 15 = .ok (.iconst 0, 1) := by decide +kernel
theorem d9_16 : decode (mB m9) 16 = .ok (.putfield 124, 3) := by decide +kernel
theorem d9_19 : decode (mB m9) 19 = .ok (.aload_n 0, 1) := by decide +kernel
theorem d10_0 : decode (mB m10) 0 = .ok (.new 7, 3) := by decide +kernel
theorem d10_3 : decode (mB m10) 3 = .ok (.dup, 1) := by decide +kernel
theorem d10_4 : decode (mB m10) 4 = .ok (.iload_n 0, 1) := by decide +kernel
theorem d10_5 : decode (mB m10) 5 = .ok (.iload_n 1, 1) := by decide +kernel
theorem d10_6 : decode (mB m10) 6 = .ok (.iload_n 2, 1) := by decide +kernel
theorem d10_7 : decode (mB m10) 7 = .ok (.invokespecial 9, 3) := by decide +kernel
theorem d10_10 : decode (mB m10) 10 = .ok (.astore 5, 2) := by decide +kernel
theorem d10_12 : decode (mB m10) 12 = .ok (.iload_n 0, 1) := by decide +kernel
theorem d10_13 : decode (mB m10) 13 = .ok (.bipush 8, 2) := by decide +kernel
theorem d10_15 : decode (mB m10) 15 = .ok (.if_icmp .ge 8, 3) := by decide +kernel
theorem d10_18 : decode (mB m10) 18 = .ok (.bipush 8, 2) := by decide +kernel
theorem d10_20 : decode (mB m10) 20 = .ok (.goto 15, 3) := by decide +kernel
theorem d10_23 : decode (mB m10) 23 = .ok (.iload_n 0, 1) := by decide +kernel
theorem d10_24 : decode (mB m10) 24 = .ok (.bipush 32, 2) := by decide +kernel
theorem d10_26 : decode (mB m10) 26 = .ok (.if_icmp .le 8, 3) := by decide +kernel
theorem d10_29 : decode (mB m10) 29 = .ok (.bipush 32, 2) := by decide +kernel
theorem d10_31 : decode (mB m10) 31 = .ok (.goto 4, 3) := by decide +kernel
theorem d10_34 : decode (mB m10) 34 = .ok (.iload_n 0, 1) := by decide +kernel
theorem d10_35 : decode (mB m10) 35 = .ok (.istore 6, 2) := by decide +kernel
theorem d10_37 : decode (mB m10) 37 = .ok (.aload 5, 2) := by decide +kernel
theorem d10_39 : decode (mB m10) 39 = .ok (.invokevirtual 12, 3) := by decide +kernel
theorem d10_42 : decode (mB m10) 42 = .ok (.iload 6, 2) := by decide +kernel
theorem d10_44 : decode (mB m10) 44 = .ok (.if_icmp .eq 5, 3) := by decide +kernel
theorem d10_47 : decode (mB m10) 47 = .ok (.iconst 0, 1) := by decide +kernel
theorem d10_48 : decode (mB m10) 48 = .ok (.ireturn, 1) := by decide +kernel
theorem d10_49 : decode (mB m10) 49 = .ok (.aload 5, 2) := by decide +kernel
theorem d10_51 : decode (mB m10) 51 = .ok (.invokevirtual 16, 3) := by decide +kernel
theorem d10_54 : decode (mB m10) 54 = .ok (.ifCond .eq 5, 3) := by decide +kernel
theorem d10_57 : decode (mB m10) 57 = .ok (.iconst 0, 1) := by decide +kernel
theorem d10_58 : decode (mB m10) 58 = .ok (.ireturn, 1) := by decide +kernel
theorem d10_59 : decode (mB m10) 59 = .ok (.aload 5, 2) := by decide +kernel
theorem d10_61 : decode (mB m10) 61 = .ok (.iload_n 3, 1) := by decide +kernel
theorem d10_62 : decode (mB m10) 62 = .ok (.invokevirtual 19, 3) := by decide +kernel
theorem d10_65 : decode (mB m10) 65 = .ok (.ifCond .eq 5, 3) := by decide +kernel
theorem d10_68 : decode (mB m10) 68 = .ok (.iconst 0, 1) := by decide +kernel
theorem d10_69 : decode (mB m10) 69 = .ok (.ireturn, 1) := by decide +kernel
theorem d10_70 : decode (mB m10) 70 = .ok (.aload 5, 2) := by decide +kernel
theorem d10_72 : decode (mB m10) 72 = .ok (.iload 4, 2) := by decide +kernel
theorem d10_74 : decode (mB m10) 74 = .ok (.invokevirtual 23, 3) := by decide +kernel
theorem d10_77 : decode (mB m10) 77 = .ok (.ifCond .eq 5, 3) := by decide +kernel
theorem d10_80 : decode (mB m10) 80 = .ok (.iconst 0, 1) := by decide +kernel
theorem d10_81 : decode (mB m10) 81 = .ok (.ireturn, 1) := by decide +kernel
theorem d10_82 : decode (mB m10) 82 = .ok (.aload 5, 2) := by decide +kernel
theorem d10_84 : decode (mB m10) 84 = .ok (.invokevirtual 26, 3) := by decide +kernel
theorem d10_87 : decode (mB m10) 87 = .ok (.iconst (-1), 1) := by decide +kernel
theorem d10_88 : decode (mB m10) 88 = .ok (.if_icmp .eq 5, 3) := by decide +kernel
theorem d10_91 : decode (mB m10) 91 = .ok (.iconst 0, 1) := by decide +kernel
theorem d10_92 : decode (mB m10) 92 = .ok (.ireturn, 1) := by decide +kernel
theorem d10_93 : decode (mB m10) 93 = .ok (.aload 5, 2) := by decide +kernel
theorem d10_95 : decode (mB m10) 95 = .ok (.invokevirtual 29, 3) := by decide +kernel
theorem d10_98 : decode (mB m10) 98 = .ok (.iconst 1, 1) := by decide +kernel
theorem d10_99 : decode (mB m10) 99 = .ok (.if_icmp .eq 5, 3) := by decide +kernel
theorem d10_102 : decode (mB m10) 102 = .ok (.iconst 0, 1) := by decide +kernel
theorem d10_103 : decode (mB m10) 103 = .ok (.ireturn, 1) := by decide +kernel
theorem d10_104 : decode (mB m10) 104 = .ok (.iconst 1, 1) := by decide +kernel
theorem d10_105 : decode (mB m10) 105 = .ok (.ireturn, 1) := by decide +kernel
theorem cb_8 : (8 : Int32) = (Int8.ofInt (8)).toInt32 := by decide
theorem cb_16 : (16 : Int32) = (Int8.ofInt (16)).toInt32 := by decide
theorem cb_26 : (26 : Int32) = (Int8.ofInt (26)).toInt32 := by decide
theorem cb_32 : (32 : Int32) = (Int8.ofInt (32)).toInt32 := by decide
theorem cb_63 : (63 : Int32) = (Int8.ofInt (63)).toInt32 := by decide
theorem cb_64 : (64 : Int32) = (Int8.ofInt (64)).toInt32 := by decide
theorem ci_m1 : (-1 : Int32) = Int32.ofInt (-1) := by decide
theorem ci_0 : (0 : Int32) = Int32.ofInt (0) := by decide
theorem ci_1 : (1 : Int32) = Int32.ofInt (1) := by decide
theorem ci_2 : (2 : Int32) = Int32.ofInt (2) := by decide
theorem ci_4 : (4 : Int32) = Int32.ofInt (4) := by decide
theorem cs_256 : (256 : Int32) = (Int16.ofInt (256)).toInt32 := by decide
theorem j_1_9 : 0 ≤ ((1 : Nat) : Int) + (9) ∧ (((1 : Nat) : Int) + (9)).toNat = 10 := by decide
theorem j_2_5 : 0 ≤ ((2 : Nat) : Int) + (5) ∧ (((2 : Nat) : Int) + (5)).toNat = 7 := by decide
theorem j_4_5 : 0 ≤ ((4 : Nat) : Int) + (5) ∧ (((4 : Nat) : Int) + (5)).toNat = 9 := by decide
theorem j_7_5 : 0 ≤ ((7 : Nat) : Int) + (5) ∧ (((7 : Nat) : Int) + (5)).toNat = 12 := by decide
theorem j_9_5 : 0 ≤ ((9 : Nat) : Int) + (5) ∧ (((9 : Nat) : Int) + (5)).toNat = 14 := by decide
theorem j_14_39 : 0 ≤ ((14 : Nat) : Int) + (39) ∧ (((14 : Nat) : Int) + (39)).toNat = 53 := by decide
theorem j_15_8 : 0 ≤ ((15 : Nat) : Int) + (8) ∧ (((15 : Nat) : Int) + (8)).toNat = 23 := by decide
theorem j_20_15 : 0 ≤ ((20 : Nat) : Int) + (15) ∧ (((20 : Nat) : Int) + (15)).toNat = 35 := by decide
theorem j_23_5 : 0 ≤ ((23 : Nat) : Int) + (5) ∧ (((23 : Nat) : Int) + (5)).toNat = 28 := by decide
theorem j_26_8 : 0 ≤ ((26 : Nat) : Int) + (8) ∧ (((26 : Nat) : Int) + (8)).toNat = 34 := by decide
theorem j_31_4 : 0 ≤ ((31 : Nat) : Int) + (4) ∧ (((31 : Nat) : Int) + (4)).toNat = 35 := by decide
theorem j_35_5 : 0 ≤ ((35 : Nat) : Int) + (5) ∧ (((35 : Nat) : Int) + (5)).toNat = 40 := by decide
theorem j_44_5 : 0 ≤ ((44 : Nat) : Int) + (5) ∧ (((44 : Nat) : Int) + (5)).toNat = 49 := by decide
theorem j_50_m39 : 0 ≤ ((50 : Nat) : Int) + (-39) ∧ (((50 : Nat) : Int) + (-39)).toNat = 11 := by decide
theorem j_54_5 : 0 ≤ ((54 : Nat) : Int) + (5) ∧ (((54 : Nat) : Int) + (5)).toNat = 59 := by decide
theorem j_65_5 : 0 ≤ ((65 : Nat) : Int) + (5) ∧ (((65 : Nat) : Int) + (5)).toNat = 70 := by decide
theorem j_77_5 : 0 ≤ ((77 : Nat) : Int) + (5) ∧ (((77 : Nat) : Int) + (5)).toNat = 82 := by decide
theorem j_88_5 : 0 ≤ ((88 : Nat) : Int) + (5) ∧ (((88 : Nat) : Int) + (5)).toNat = 93 := by decide
theorem j_99_5 : 0 ≤ ((99 : Nat) : Int) + (5) ∧ (((99 : Nat) : Int) + (5)).toNat = 104 := by decide
theorem j_297_25 : 0 ≤ ((297 : Nat) : Int) + (25) ∧ (((297 : Nat) : Int) + (25)).toNat = 322 := by decide
theorem j_319_m26 : 0 ≤ ((319 : Nat) : Int) + (-26) ∧ (((319 : Nat) : Int) + (-26)).toNat = 293 := by decide
theorem lk_0_98 : LinkP PP "AntiCacheStore" 98 m0 := ⟨List.mem_of_getElem? (i := 69) rfl, List.mem_of_getElem? (i := 70) rfl, List.mem_of_getElem? (i := 71) rfl, List.mem_of_getElem? (i := 72) rfl, rfl, rfl⟩
theorem lk_0_147 : LinkP PP "AntiCacheStore" 147 m5 := ⟨List.mem_of_getElem? (i := 102) rfl, List.mem_of_getElem? (i := 103) rfl, List.mem_of_getElem? (i := 104) rfl, List.mem_of_getElem? (i := 105) rfl, rfl, rfl⟩
theorem lk_0_259 : LinkP PP "AntiCacheStore" 259 m4 := ⟨List.mem_of_getElem? (i := 106) rfl, List.mem_of_getElem? (i := 107) rfl, List.mem_of_getElem? (i := 108) rfl, List.mem_of_getElem? (i := 109) rfl, rfl, rfl⟩
theorem lk_1_9 : LinkI PP "AntiCacheStoreL1" 9 m1 := ⟨List.mem_of_getElem? (i := 3) rfl, List.mem_of_getElem? (i := 4) rfl, List.mem_of_getElem? (i := 5) rfl, rfl, rfl, rfl, rfl⟩
theorem lk_1_12 : LinkV PP "AntiCacheStoreL1" 12 m2 := ⟨List.mem_of_getElem? (i := 85) rfl, List.mem_of_getElem? (i := 86) rfl, List.mem_of_getElem? (i := 88) rfl, List.mem_of_getElem? (i := 87) rfl, List.mem_of_getElem? (i := 89) rfl, rfl, rfl⟩
theorem lk_1_16 : LinkV PP "AntiCacheStoreL1" 16 m3 := ⟨List.mem_of_getElem? (i := 90) rfl, List.mem_of_getElem? (i := 91) rfl, List.mem_of_getElem? (i := 93) rfl, List.mem_of_getElem? (i := 92) rfl, List.mem_of_getElem? (i := 94) rfl, rfl, rfl⟩
theorem lk_1_19 : LinkV PP "AntiCacheStoreL1" 19 m6 := ⟨List.mem_of_getElem? (i := 97) rfl, List.mem_of_getElem? (i := 98) rfl, List.mem_of_getElem? (i := 100) rfl, List.mem_of_getElem? (i := 99) rfl, List.mem_of_getElem? (i := 101) rfl, rfl, rfl⟩
theorem lk_1_23 : LinkV PP "AntiCacheStoreL1" 23 m7 := ⟨List.mem_of_getElem? (i := 111) rfl, List.mem_of_getElem? (i := 112) rfl, List.mem_of_getElem? (i := 114) rfl, List.mem_of_getElem? (i := 113) rfl, List.mem_of_getElem? (i := 115) rfl, rfl, rfl⟩
theorem lk_1_26 : LinkV PP "AntiCacheStoreL1" 26 m8 := ⟨List.mem_of_getElem? (i := 116) rfl, List.mem_of_getElem? (i := 117) rfl, List.mem_of_getElem? (i := 119) rfl, List.mem_of_getElem? (i := 118) rfl, List.mem_of_getElem? (i := 120) rfl, rfl, rfl⟩
theorem lk_1_29 : LinkV PP "AntiCacheStoreL1" 29 m9 := ⟨List.mem_of_getElem? (i := 121) rfl, List.mem_of_getElem? (i := 122) rfl, List.mem_of_getElem? (i := 124) rfl, List.mem_of_getElem? (i := 123) rfl, List.mem_of_getElem? (i := 125) rfl, rfl, rfl⟩
theorem facts1 {Z : State} {a0 : Array Value} (hw : ∀ d ∈ tables_1, d.before a0 Z = true) : Facts Z a0 ci1 := by
  refine ⟨hw _ (List.mem_of_getElem? (i := 1) rfl), hw _ (List.mem_of_getElem? (i := 2) rfl), ?_, ?_, by decide, ?_, by decide⟩
  · intro f x hx
    match f, hx with
    | 0, hx => cases hx; exact ⟨Or.inl (hw _ (List.mem_of_getElem? (i := 74) rfl)), by decide⟩
    | 1, hx => cases hx; exact ⟨Or.inl (hw _ (List.mem_of_getElem? (i := 76) rfl)), by decide⟩
    | 2, hx => cases hx; exact ⟨Or.inl (hw _ (List.mem_of_getElem? (i := 78) rfl)), by decide⟩
    | 3, hx => cases hx; exact ⟨Or.inl (hw _ (List.mem_of_getElem? (i := 80) rfl)), by decide⟩
    | 4, hx => cases hx; exact ⟨Or.inl (hw _ (List.mem_of_getElem? (i := 82) rfl)), by decide⟩
    | 5, hx => cases hx; exact ⟨Or.inl (hw _ (List.mem_of_getElem? (i := 84) rfl)), by decide⟩
    | 6, hx => cases hx; exact ⟨Or.inl (hw _ (List.mem_of_getElem? (i := 96) rfl)), by decide⟩
    | 7, hx => cases hx; exact ⟨Or.inl (hw _ (List.mem_of_getElem? (i := 127) rfl)), by decide⟩
    | 8, hx => cases hx; exact ⟨Or.inl (hw _ (List.mem_of_getElem? (i := 129) rfl)), by decide⟩
    | 9, hx => cases hx; exact ⟨Or.inl (hw _ (List.mem_of_getElem? (i := 131) rfl)), by decide⟩
    | 10, hx => cases hx; exact ⟨Or.inl (hw _ (List.mem_of_getElem? (i := 133) rfl)), by decide⟩
    | n + 11, hx => simp [cS, ci1] at hx
  · intro q x hx
    match q, hx with
    | 0, hx => cases hx; exact ⟨Or.inr (hw _ (List.mem_of_getElem? (i := 11) rfl)), by decide⟩
    | 1, hx => cases hx; exact ⟨Or.inr (hw _ (List.mem_of_getElem? (i := 13) rfl)), by decide⟩
    | 2, hx => cases hx; exact ⟨Or.inr (hw _ (List.mem_of_getElem? (i := 15) rfl)), by decide⟩
    | 3, hx => cases hx; exact ⟨Or.inr (hw _ (List.mem_of_getElem? (i := 17) rfl)), by decide⟩
    | 4, hx => cases hx; exact ⟨Or.inr (hw _ (List.mem_of_getElem? (i := 20) rfl)), by decide⟩
    | 5, hx => cases hx; exact ⟨Or.inr (hw _ (List.mem_of_getElem? (i := 22) rfl)), by decide⟩
    | 6, hx => cases hx; exact ⟨Or.inr (hw _ (List.mem_of_getElem? (i := 24) rfl)), by decide⟩
    | 7, hx => cases hx; exact ⟨Or.inr (hw _ (List.mem_of_getElem? (i := 26) rfl)), by decide⟩
    | 8, hx => cases hx; exact ⟨Or.inr (hw _ (List.mem_of_getElem? (i := 28) rfl)), by decide⟩
    | 9, hx => cases hx; exact ⟨Or.inr (hw _ (List.mem_of_getElem? (i := 30) rfl)), by decide⟩
    | 10, hx => cases hx; exact ⟨Or.inr (hw _ (List.mem_of_getElem? (i := 32) rfl)), by decide⟩
    | 11, hx => cases hx; exact ⟨Or.inr (hw _ (List.mem_of_getElem? (i := 34) rfl)), by decide⟩
    | 12, hx => cases hx; exact ⟨Or.inr (hw _ (List.mem_of_getElem? (i := 36) rfl)), by decide⟩
    | 13, hx => cases hx; exact ⟨Or.inr (hw _ (List.mem_of_getElem? (i := 38) rfl)), by decide⟩
    | 14, hx => cases hx; exact ⟨Or.inr (hw _ (List.mem_of_getElem? (i := 40) rfl)), by decide⟩
    | 15, hx => cases hx; exact ⟨Or.inr (hw _ (List.mem_of_getElem? (i := 42) rfl)), by decide⟩
    | 16, hx => cases hx; exact ⟨Or.inr (hw _ (List.mem_of_getElem? (i := 44) rfl)), by decide⟩
    | 17, hx => cases hx; exact ⟨Or.inr (hw _ (List.mem_of_getElem? (i := 46) rfl)), by decide⟩
    | 18, hx => cases hx; exact ⟨Or.inr (hw _ (List.mem_of_getElem? (i := 48) rfl)), by decide⟩
    | 19, hx => cases hx; exact ⟨Or.inr (hw _ (List.mem_of_getElem? (i := 50) rfl)), by decide⟩
    | 20, hx => cases hx; exact ⟨Or.inr (hw _ (List.mem_of_getElem? (i := 52) rfl)), by decide⟩
    | 21, hx => cases hx; exact ⟨Or.inr (hw _ (List.mem_of_getElem? (i := 54) rfl)), by decide⟩
    | 22, hx => cases hx; exact ⟨Or.inr (hw _ (List.mem_of_getElem? (i := 56) rfl)), by decide⟩
    | 23, hx => cases hx; exact ⟨Or.inr (hw _ (List.mem_of_getElem? (i := 58) rfl)), by decide⟩
    | 24, hx => cases hx; exact ⟨Or.inr (hw _ (List.mem_of_getElem? (i := 60) rfl)), by decide⟩
    | 25, hx => cases hx; exact ⟨Or.inr (hw _ (List.mem_of_getElem? (i := 62) rfl)), by decide⟩
    | 26, hx => cases hx; exact ⟨Or.inr (hw _ (List.mem_of_getElem? (i := 64) rfl)), by decide⟩
    | 27, hx => cases hx; exact ⟨Or.inr (hw _ (List.mem_of_getElem? (i := 66) rfl)), by decide⟩
    | 28, hx => cases hx; exact ⟨Or.inr (hw _ (List.mem_of_getElem? (i := 68) rfl)), by decide⟩
    | n + 29, hx => simp [cA, ci1] at hx
  · intro f x hx
    match f, hx with
    | 0, hx => cases hx; rfl
    | 1, hx => cases hx; rfl
    | 2, hx => cases hx; rfl
    | 3, hx => cases hx; rfl
    | 4, hx => cases hx; rfl
    | 5, hx => cases hx; rfl
    | 6, hx => cases hx; rfl
    | 7, hx => cases hx; rfl
    | 8, hx => cases hx; rfl
    | 9, hx => cases hx; rfl
    | 10, hx => cases hx; rfl
    | n + 11, hx => simp [cS, ci1] at hx
def k_clamp  (v1 : Int32) (v2 : Int32) (v3 : Int32)  : Int32 :=
  if v1 < v2 then
    v2
  else
    if v3 < v1 then
      v3
    else
      v1
def k_init_293  : Nat → Int32 → S → Option S
  | 0, _, _ => none
  | n + 1, v4, s =>
    if v4 < (32 : Int32) then
      (Jvm.AM.st (gA s 11) v4 (-1 : Int32)).bind fun a307 =>
      (Jvm.AM.st (gA s 12) v4 (-1 : Int32)).bind fun a315 =>
      k_init_293 n (v4 + (1 : Int32)) (sA (sA s 11 a307) 12 a315)
    else
      some s
def k_init  (v1 : Int32) (v2 : Int32) (v3 : Int32)  : Option S :=
  k_init_293 BIG (0 : Int32) (sI (sI (sI (sI (sI (sI (sA (sA (sA (sA (sA (sA (sA (sA (sA (sA (sA (sA (sA (sA (sA (sA (sA (sA (sA (sA (sA (sA (sA (sA (sA (sA (sA (sA (sA s0 0 (rep 8 0)) 1 (rep 8 0)) 2 (rep 8 0)) 3 (rep 8 0)) 4 (rep 8 0)) 5 (rep 64 0)) 6 (rep 64 0)) 7 (rep 64 0)) 8 (rep 32 0)) 9 (rep 32 0)) 10 (rep 32 0)) 11 (rep 32 0)) 12 (rep 32 0)) 13 (rep 256 0)) 14 (rep 256 0)) 15 (rep 256 0)) 16 (rep 64 0)) 17 (rep 64 0)) 18 (rep 32 0)) 19 (rep 8 0)) 20 (rep 8 0)) 21 (rep 8 0)) 22 (rep 8 0)) 23 (rep 8 0)) 24 (rep 8 0)) 25 (rep 8 0)) 26 (rep 8 0)) 27 (rep 8 0)) 28 (rep 8 0)) 0 (k_clamp v1 (8 : Int32) (32 : Int32))) 1 (k_clamp v2 (4 : Int32) (16 : Int32))) 2 (k_clamp v3 (2 : Int32) (4 : Int32))) 3 (-1 : Int32)) 4 (-1 : Int32)) 5 (-1 : Int32))
def k_maxRows   (s : S) : Int32 :=
  gI s 0
def k_rowCount   (s : S) : Int32 :=
  gI s 6
def k_home  (v1 : Int32)  : Int32 :=
  XT.ushr (v1 * (-1640531535 : Int32)) (26 : Int32)
def k_hFind_11  : Nat → Int32 → Int32 → Int32 → S → Option Int32
  | 0, _, _, _, _ => none
  | n + 1, v1, v2, v3, s =>
    if v3 < (64 : Int32) then
      (ix (gA s 7) v2).bind fun a22 =>
      if a22 = 0 then
        some (-1 : Int32)
      else
        (ix (gA s 5) v2).bind fun a33 =>
        if a33 = v1 then
          some v2
        else
          k_hFind_11 n v1 ((v2 + (1 : Int32)) &&& (63 : Int32)) (v3 + (1 : Int32)) s
    else
      some (-1 : Int32)
def k_hFind  (v1 : Int32) (s : S) : Option Int32 :=
  k_hFind_11 BIG v1 ((k_home v1) &&& (63 : Int32)) (0 : Int32) s
def k_get  (v1 : Int32) (s : S) : Option Int32 :=
  (k_hFind v1 s).bind fun r2 =>
  if r2 < 0 then
    some (0 : Int32)
  else
    none
def k_readValue  (v1 : Int32) (s : S) : Option Int32 :=
  if v1 < 0 then
    some (0 : Int32)
  else
    if v1 < (8 : Int32) then
      (ix (gA s 3) v1).bind fun a17 =>
      some a17
    else
      some (0 : Int32)
def k_lastFailIndex   (s : S) : Int32 :=
  gI s 3
def k_commit   (s : S) : Option (Int32 × S) :=
  if 0 < (gI s 7) then
    none
  else
    some ((1 : Int32), s)
def law_35  (v3 : Int32) (v4 : Int32) (p0 : Int32) (t0 : S) : Option (Int32 × S) :=
  if (k_maxRows t0) = p0 then
    if (k_rowCount t0) = 0 then
      (k_get v3 t0).bind fun r62 =>
      if r62 = 0 then
        (k_readValue v4 t0).bind fun r74 =>
        if r74 = 0 then
          if (k_lastFailIndex t0) = (-1 : Int32) then
            (k_commit t0).bind fun r95 =>
            if r95.1 = (1 : Int32) then
              some ((1 : Int32), r95.2)
            else
              some ((0 : Int32), r95.2)
          else
            some ((0 : Int32), t0)
        else
          some ((0 : Int32), t0)
      else
        some ((0 : Int32), t0)
    else
      some ((0 : Int32), t0)
  else
    some ((0 : Int32), t0)
def law  (v0 : Int32) (v1 : Int32) (v2 : Int32) (v3 : Int32) (v4 : Int32)  : Option (Int32 × S) :=
  (k_init v0 v1 v2).bind fun r7 =>
  law_35 v3 v4 (if v0 < (8 : Int32) then (8 : Int32) else if (32 : Int32) < v0 then (32 : Int32) else v0) r7
set_option maxRecDepth 65536 in
set_option maxHeartbeats 4000000 in
theorem k_clamp_ok  {s : S} : ∀ (v1 : Int32) (v2 : Int32) (v3 : Int32)   (o : Int32), k_clamp v1 v2 v3 = o → Go PP m0 0 [.val (.ref 1), .val (.int v1), .val (.int v2), .val (.int v3)] [] (none, [(29, s)]) (some (.int o), (none, [(29, s)])) := by
  intro v1 v2 v3 o hf
  unfold k_clamp at hf
  refine go_iloadN (pc := 0) d0_0 rfl (go_iloadN (pc := 1) d0_1 rfl ?_)
  by_cases h1 : v1 < v2
  · replace hf := (if_pos h1).symm.trans hf
    refine go_icN (pc := 2) d0_2 (XT.ii_ge_f h1) ?_
    refine go_iloadN (pc := 5) d0_5 rfl ?_
    cases hf
    exact go_iret (pc := 6) rfl d0_6
  · replace hf := (if_neg h1).symm.trans hf
    refine go_icY (pc := 2) (pc' := 7) d0_2 (XT.ii_ge_t h1) j_2_5 ?_
    refine go_iloadN (pc := 7) d0_7 rfl (go_iloadN (pc := 8) d0_8 rfl ?_)
    by_cases h2 : v3 < v1
    · replace hf := (if_pos h2).symm.trans hf
      refine go_icN (pc := 9) d0_9 (XT.ii_le_f h2) ?_
      refine go_iloadN (pc := 12) d0_12 rfl ?_
      cases hf
      exact go_iret (pc := 13) rfl d0_13
    · replace hf := (if_neg h2).symm.trans hf
      refine go_icY (pc := 9) (pc' := 14) d0_9 (XT.ii_le_t h2) j_9_5 ?_
      refine go_iloadN (pc := 14) d0_14 rfl ?_
      cases hf
      exact go_iret (pc := 15) rfl d0_15
theorem c_k_clamp (v1 : Int32) (v2 : Int32) (v3 : Int32) (s : S) : Call PP m0 [.ref 1, .int v1, .int v2, .int v3] (none, [(29, s)]) (some (.int (k_clamp v1 v2 v3)), (none, [(29, s)])) := call_of_go pl_0 rfl (fun h => nomatch h) (k_clamp_ok v1 v2 v3   _ rfl)
set_option maxRecDepth 65536 in
set_option maxHeartbeats 4000000 in
theorem k_init_293_ok  : ∀ (n : Nat) (v4 : Int32) (s : S) (x1 : Slot) (x2 : Slot) (x3 : Slot) (hx1 : k1 x1) (hx2 : k1 x2) (hx3 : k1 x3) (o : S), k_init_293 n v4 s = some o → Go PP m1 293 [.val (.ref 1), x1, x2, x3, .val (.int v4)] [] (none, [(29, s)]) (none, (none, [(29, o)])) := by
  intro n
  induction n with
  | zero => intro v4 s x1 x2 x3 hx1 hx2 hx3 o hf; exact nomatch hf
  | succ n ih =>
    intro v4 s x1 x2 x3 hx1 hx2 hx3 o hf
    unfold k_init_293 at hf
    refine go_iload (pc := 293) d1_293 rfl (go_bipush (pc := 295) d1_295 cb_32 ?_)
    by_cases h1 : v4 < (32 : Int32)
    · replace hf := (if_pos h1).symm.trans hf
      refine go_icN (pc := 297) d1_297 (XT.ii_ge_f h1) ?_
      refine go_aloadN (pc := 300) d1_300 rfl (go_getA (pc := 301) fa_44 hm_1 d1_301 rfl (go_iload (pc := 304) d1_304 rfl (go_iconst (pc := 306) d1_306 ci_m1 ?_)))
      obtain ⟨a307, e2, hf⟩ := Option.bind_eq_some_iff.mp hf
      refine go_iastore (pc := 307) (q := 11) ar_11 rfl hn_1 e2 d1_307 ?_
      refine go_aloadN (pc := 308) d1_308 rfl (go_getA (pc := 309) fa_47 hm_1 d1_309 rfl (go_iload (pc := 312) d1_312 rfl (go_iconst (pc := 314) d1_314 ci_m1 ?_)))
      obtain ⟨a315, e3, hf⟩ := Option.bind_eq_some_iff.mp hf
      refine go_iastore (pc := 315) (q := 12) ar_12 rfl hn_1 e3 d1_315 ?_
      refine go_iinc (pc := 316) (L' := [.val (.ref 1), x1, x2, x3, .val (.int (v4 + (1 : Int32)))]) d1_316 rfl ci_1 rfl (go_goto (pc := 319) (pc' := 293) d1_319 j_319_m26 ?_)
      exact ih (v4 + (1 : Int32)) (sA (sA s 11 a307) 12 a315) x1 x2 x3 hx1 hx2 hx3 _ hf
    · replace hf := (if_neg h1).symm.trans hf
      refine go_icY (pc := 297) (pc' := 322) d1_297 (XT.ii_ge_t h1) j_297_25 ?_
      cases hf
      exact go_ret (pc := 322) rfl d1_322
set_option maxRecDepth 65536 in
set_option maxHeartbeats 4000000 in
theorem k_init_ok  : ∀ (v1 : Int32) (v2 : Int32) (v3 : Int32)   (o : S), k_init v1 v2 v3 = some o → Go PP m1 0 [.val (.ref 1), .val (.int v1), .val (.int v2), .val (.int v3), .unset] [] (none, [(0, s0)]) (none, (none, [(29, o)])) := by
  intro v1 v2 v3 o hf
  unfold k_init at hf
  refine go_aloadN (pc := 0) d1_0 rfl ?_
  refine go_objinit (pc := 1) (rest := []) (a := 0) (List.mem_of_getElem? (i := 6) rfl) (List.mem_of_getElem? (i := 7) rfl) (List.mem_of_getElem? (i := 8) rfl) rfl rfl d1_1 ?_
  refine go_aloadN (pc := 4) d1_4 rfl (go_bipush (pc := 5) d1_5 cb_8 ?_)
  refine go_newI (pc := 7) (ty := .int) rfl (by decide) ar_0 (List.mem_of_getElem? (i := 9) rfl) (List.mem_of_getElem? (i := 10) rfl) hm_1 (Or.inr ⟨List.mem_of_getElem? (i := 11) rfl, rfl⟩) rfl hn_1 (by decide) rfl rfl rfl rfl d1_7 d1_9 ?_
  refine go_aloadN (pc := 12) d1_12 rfl (go_bipush (pc := 13) d1_13 cb_8 ?_)
  refine go_newI (pc := 15) (ty := .int) rfl (by decide) ar_1 (List.mem_of_getElem? (i := 9) rfl) (List.mem_of_getElem? (i := 12) rfl) hm_1 (Or.inr ⟨List.mem_of_getElem? (i := 13) rfl, rfl⟩) rfl hn_1 (by decide) rfl rfl rfl rfl d1_15 d1_17 ?_
  refine go_aloadN (pc := 20) d1_20 rfl (go_bipush (pc := 21) d1_21 cb_8 ?_)
  refine go_newI (pc := 23) (ty := .int) rfl (by decide) ar_2 (List.mem_of_getElem? (i := 9) rfl) (List.mem_of_getElem? (i := 14) rfl) hm_1 (Or.inr ⟨List.mem_of_getElem? (i := 15) rfl, rfl⟩) rfl hn_1 (by decide) rfl rfl rfl rfl d1_23 d1_25 ?_
  refine go_aloadN (pc := 28) d1_28 rfl (go_bipush (pc := 29) d1_29 cb_8 ?_)
  refine go_newI (pc := 31) (ty := .int) rfl (by decide) ar_3 (List.mem_of_getElem? (i := 9) rfl) (List.mem_of_getElem? (i := 16) rfl) hm_1 (Or.inr ⟨List.mem_of_getElem? (i := 17) rfl, rfl⟩) rfl hn_1 (by decide) rfl rfl rfl rfl d1_31 d1_33 ?_
  refine go_aloadN (pc := 36) d1_36 rfl (go_bipush (pc := 37) d1_37 cb_8 ?_)
  refine go_newI (pc := 39) (ty := .boolean) rfl (by decide) ar_4 (List.mem_of_getElem? (i := 18) rfl) (List.mem_of_getElem? (i := 19) rfl) hm_1 (Or.inr ⟨List.mem_of_getElem? (i := 20) rfl, rfl⟩) rfl hn_1 (by decide) rfl rfl rfl rfl d1_39 d1_41 ?_
  refine go_aloadN (pc := 44) d1_44 rfl (go_bipush (pc := 45) d1_45 cb_64 ?_)
  refine go_newI (pc := 47) (ty := .int) rfl (by decide) ar_5 (List.mem_of_getElem? (i := 9) rfl) (List.mem_of_getElem? (i := 21) rfl) hm_1 (Or.inr ⟨List.mem_of_getElem? (i := 22) rfl, rfl⟩) rfl hn_1 (by decide) rfl rfl rfl rfl d1_47 d1_49 ?_
  refine go_aloadN (pc := 52) d1_52 rfl (go_bipush (pc := 53) d1_53 cb_64 ?_)
  refine go_newI (pc := 55) (ty := .int) rfl (by decide) ar_6 (List.mem_of_getElem? (i := 9) rfl) (List.mem_of_getElem? (i := 23) rfl) hm_1 (Or.inr ⟨List.mem_of_getElem? (i := 24) rfl, rfl⟩) rfl hn_1 (by decide) rfl rfl rfl rfl d1_55 d1_57 ?_
  refine go_aloadN (pc := 60) d1_60 rfl (go_bipush (pc := 61) d1_61 cb_64 ?_)
  refine go_newI (pc := 63) (ty := .boolean) rfl (by decide) ar_7 (List.mem_of_getElem? (i := 18) rfl) (List.mem_of_getElem? (i := 25) rfl) hm_1 (Or.inr ⟨List.mem_of_getElem? (i := 26) rfl, rfl⟩) rfl hn_1 (by decide) rfl rfl rfl rfl d1_63 d1_65 ?_
  refine go_aloadN (pc := 68) d1_68 rfl (go_bipush (pc := 69) d1_69 cb_32 ?_)
  refine go_newI (pc := 71) (ty := .int) rfl (by decide) ar_8 (List.mem_of_getElem? (i := 9) rfl) (List.mem_of_getElem? (i := 27) rfl) hm_1 (Or.inr ⟨List.mem_of_getElem? (i := 28) rfl, rfl⟩) rfl hn_1 (by decide) rfl rfl rfl rfl d1_71 d1_73 ?_
  refine go_aloadN (pc := 76) d1_76 rfl (go_bipush (pc := 77) d1_77 cb_32 ?_)
  refine go_newI (pc := 79) (ty := .int) rfl (by decide) ar_9 (List.mem_of_getElem? (i := 9) rfl) (List.mem_of_getElem? (i := 29) rfl) hm_1 (Or.inr ⟨List.mem_of_getElem? (i := 30) rfl, rfl⟩) rfl hn_1 (by decide) rfl rfl rfl rfl d1_79 d1_81 ?_
  refine go_aloadN (pc := 84) d1_84 rfl (go_bipush (pc := 85) d1_85 cb_32 ?_)
  refine go_newI (pc := 87) (ty := .boolean) rfl (by decide) ar_10 (List.mem_of_getElem? (i := 18) rfl) (List.mem_of_getElem? (i := 31) rfl) hm_1 (Or.inr ⟨List.mem_of_getElem? (i := 32) rfl, rfl⟩) rfl hn_1 (by decide) rfl rfl rfl rfl d1_87 d1_89 ?_
  refine go_aloadN (pc := 92) d1_92 rfl (go_bipush (pc := 93) d1_93 cb_32 ?_)
  refine go_newI (pc := 95) (ty := .int) rfl (by decide) ar_11 (List.mem_of_getElem? (i := 9) rfl) (List.mem_of_getElem? (i := 33) rfl) hm_1 (Or.inr ⟨List.mem_of_getElem? (i := 34) rfl, rfl⟩) rfl hn_1 (by decide) rfl rfl rfl rfl d1_95 d1_97 ?_
  refine go_aloadN (pc := 100) d1_100 rfl (go_bipush (pc := 101) d1_101 cb_32 ?_)
  refine go_newI (pc := 103) (ty := .int) rfl (by decide) ar_12 (List.mem_of_getElem? (i := 9) rfl) (List.mem_of_getElem? (i := 35) rfl) hm_1 (Or.inr ⟨List.mem_of_getElem? (i := 36) rfl, rfl⟩) rfl hn_1 (by decide) rfl rfl rfl rfl d1_103 d1_105 ?_
  refine go_aloadN (pc := 108) d1_108 rfl (go_sipush (pc := 109) d1_109 cs_256 ?_)
  refine go_newI (pc := 112) (ty := .int) rfl (by decide) ar_13 (List.mem_of_getElem? (i := 9) rfl) (List.mem_of_getElem? (i := 37) rfl) hm_1 (Or.inr ⟨List.mem_of_getElem? (i := 38) rfl, rfl⟩) rfl hn_1 (by decide) rfl rfl rfl rfl d1_112 d1_114 ?_
  refine go_aloadN (pc := 117) d1_117 rfl (go_sipush (pc := 118) d1_118 cs_256 ?_)
  refine go_newI (pc := 121) (ty := .int) rfl (by decide) ar_14 (List.mem_of_getElem? (i := 9) rfl) (List.mem_of_getElem? (i := 39) rfl) hm_1 (Or.inr ⟨List.mem_of_getElem? (i := 40) rfl, rfl⟩) rfl hn_1 (by decide) rfl rfl rfl rfl d1_121 d1_123 ?_
  refine go_aloadN (pc := 126) d1_126 rfl (go_sipush (pc := 127) d1_127 cs_256 ?_)
  refine go_newI (pc := 130) (ty := .boolean) rfl (by decide) ar_15 (List.mem_of_getElem? (i := 18) rfl) (List.mem_of_getElem? (i := 41) rfl) hm_1 (Or.inr ⟨List.mem_of_getElem? (i := 42) rfl, rfl⟩) rfl hn_1 (by decide) rfl rfl rfl rfl d1_130 d1_132 ?_
  refine go_aloadN (pc := 135) d1_135 rfl (go_bipush (pc := 136) d1_136 cb_64 ?_)
  refine go_newI (pc := 138) (ty := .int) rfl (by decide) ar_16 (List.mem_of_getElem? (i := 9) rfl) (List.mem_of_getElem? (i := 43) rfl) hm_1 (Or.inr ⟨List.mem_of_getElem? (i := 44) rfl, rfl⟩) rfl hn_1 (by decide) rfl rfl rfl rfl d1_138 d1_140 ?_
  refine go_aloadN (pc := 143) d1_143 rfl (go_bipush (pc := 144) d1_144 cb_64 ?_)
  refine go_newI (pc := 146) (ty := .boolean) rfl (by decide) ar_17 (List.mem_of_getElem? (i := 18) rfl) (List.mem_of_getElem? (i := 45) rfl) hm_1 (Or.inr ⟨List.mem_of_getElem? (i := 46) rfl, rfl⟩) rfl hn_1 (by decide) rfl rfl rfl rfl d1_146 d1_148 ?_
  refine go_aloadN (pc := 151) d1_151 rfl (go_bipush (pc := 152) d1_152 cb_32 ?_)
  refine go_newI (pc := 154) (ty := .int) rfl (by decide) ar_18 (List.mem_of_getElem? (i := 9) rfl) (List.mem_of_getElem? (i := 47) rfl) hm_1 (Or.inr ⟨List.mem_of_getElem? (i := 48) rfl, rfl⟩) rfl hn_1 (by decide) rfl rfl rfl rfl d1_154 d1_156 ?_
  refine go_aloadN (pc := 159) d1_159 rfl (go_bipush (pc := 160) d1_160 cb_8 ?_)
  refine go_newI (pc := 162) (ty := .int) rfl (by decide) ar_19 (List.mem_of_getElem? (i := 9) rfl) (List.mem_of_getElem? (i := 49) rfl) hm_1 (Or.inr ⟨List.mem_of_getElem? (i := 50) rfl, rfl⟩) rfl hn_1 (by decide) rfl rfl rfl rfl d1_162 d1_164 ?_
  refine go_aloadN (pc := 167) d1_167 rfl (go_bipush (pc := 168) d1_168 cb_8 ?_)
  refine go_newI (pc := 170) (ty := .int) rfl (by decide) ar_20 (List.mem_of_getElem? (i := 9) rfl) (List.mem_of_getElem? (i := 51) rfl) hm_1 (Or.inr ⟨List.mem_of_getElem? (i := 52) rfl, rfl⟩) rfl hn_1 (by decide) rfl rfl rfl rfl d1_170 d1_172 ?_
  refine go_aloadN (pc := 175) d1_175 rfl (go_bipush (pc := 176) d1_176 cb_8 ?_)
  refine go_newI (pc := 178) (ty := .boolean) rfl (by decide) ar_21 (List.mem_of_getElem? (i := 18) rfl) (List.mem_of_getElem? (i := 53) rfl) hm_1 (Or.inr ⟨List.mem_of_getElem? (i := 54) rfl, rfl⟩) rfl hn_1 (by decide) rfl rfl rfl rfl d1_178 d1_180 ?_
  refine go_aloadN (pc := 183) d1_183 rfl (go_bipush (pc := 184) d1_184 cb_8 ?_)
  refine go_newI (pc := 186) (ty := .int) rfl (by decide) ar_22 (List.mem_of_getElem? (i := 9) rfl) (List.mem_of_getElem? (i := 55) rfl) hm_1 (Or.inr ⟨List.mem_of_getElem? (i := 56) rfl, rfl⟩) rfl hn_1 (by decide) rfl rfl rfl rfl d1_186 d1_188 ?_
  refine go_aloadN (pc := 191) d1_191 rfl (go_bipush (pc := 192) d1_192 cb_8 ?_)
  refine go_newI (pc := 194) (ty := .int) rfl (by decide) ar_23 (List.mem_of_getElem? (i := 9) rfl) (List.mem_of_getElem? (i := 57) rfl) hm_1 (Or.inr ⟨List.mem_of_getElem? (i := 58) rfl, rfl⟩) rfl hn_1 (by decide) rfl rfl rfl rfl d1_194 d1_196 ?_
  refine go_aloadN (pc := 199) d1_199 rfl (go_bipush (pc := 200) d1_200 cb_8 ?_)
  refine go_newI (pc := 202) (ty := .boolean) rfl (by decide) ar_24 (List.mem_of_getElem? (i := 18) rfl) (List.mem_of_getElem? (i := 59) rfl) hm_1 (Or.inr ⟨List.mem_of_getElem? (i := 60) rfl, rfl⟩) rfl hn_1 (by decide) rfl rfl rfl rfl d1_202 d1_204 ?_
  refine go_aloadN (pc := 207) d1_207 rfl (go_bipush (pc := 208) d1_208 cb_8 ?_)
  refine go_newI (pc := 210) (ty := .int) rfl (by decide) ar_25 (List.mem_of_getElem? (i := 9) rfl) (List.mem_of_getElem? (i := 61) rfl) hm_1 (Or.inr ⟨List.mem_of_getElem? (i := 62) rfl, rfl⟩) rfl hn_1 (by decide) rfl rfl rfl rfl d1_210 d1_212 ?_
  refine go_aloadN (pc := 215) d1_215 rfl (go_bipush (pc := 216) d1_216 cb_8 ?_)
  refine go_newI (pc := 218) (ty := .boolean) rfl (by decide) ar_26 (List.mem_of_getElem? (i := 18) rfl) (List.mem_of_getElem? (i := 63) rfl) hm_1 (Or.inr ⟨List.mem_of_getElem? (i := 64) rfl, rfl⟩) rfl hn_1 (by decide) rfl rfl rfl rfl d1_218 d1_220 ?_
  refine go_aloadN (pc := 223) d1_223 rfl (go_bipush (pc := 224) d1_224 cb_8 ?_)
  refine go_newI (pc := 226) (ty := .int) rfl (by decide) ar_27 (List.mem_of_getElem? (i := 9) rfl) (List.mem_of_getElem? (i := 65) rfl) hm_1 (Or.inr ⟨List.mem_of_getElem? (i := 66) rfl, rfl⟩) rfl hn_1 (by decide) rfl rfl rfl rfl d1_226 d1_228 ?_
  refine go_aloadN (pc := 231) d1_231 rfl (go_bipush (pc := 232) d1_232 cb_8 ?_)
  refine go_newI (pc := 234) (ty := .boolean) rfl (by decide) ar_28 (List.mem_of_getElem? (i := 18) rfl) (List.mem_of_getElem? (i := 67) rfl) hm_1 (Or.inr ⟨List.mem_of_getElem? (i := 68) rfl, rfl⟩) rfl hn_1 (by decide) rfl rfl rfl rfl d1_234 d1_236 ?_
  refine go_aloadN (pc := 239) d1_239 rfl (go_aloadN (pc := 240) d1_240 rfl (go_iloadN (pc := 241) d1_241 rfl (go_bipush (pc := 242) d1_242 cb_8 (go_bipush (pc := 244) d1_244 cb_32 ?_))))
  refine go_priv (pc := 246) (i := 0) (as := [.int v1, .int (8 : Int32), .int (32 : Int32)]) (rest := [.ref 1]) (w' := (none, [(29, sA (sA (sA (sA (sA (sA (sA (sA (sA (sA (sA (sA (sA (sA (sA (sA (sA (sA (sA (sA (sA (sA (sA (sA (sA (sA (sA (sA (sA s0 0 (rep 8 0)) 1 (rep 8 0)) 2 (rep 8 0)) 3 (rep 8 0)) 4 (rep 8 0)) 5 (rep 64 0)) 6 (rep 64 0)) 7 (rep 64 0)) 8 (rep 32 0)) 9 (rep 32 0)) 10 (rep 32 0)) 11 (rep 32 0)) 12 (rep 32 0)) 13 (rep 256 0)) 14 (rep 256 0)) 15 (rep 256 0)) 16 (rep 64 0)) 17 (rep 64 0)) 18 (rep 32 0)) 19 (rep 8 0)) 20 (rep 8 0)) 21 (rep 8 0)) 22 (rep 8 0)) 23 (rep 8 0)) 24 (rep 8 0)) 25 (rep 8 0)) 26 (rep 8 0)) 27 (rep 8 0)) 28 (rep 8 0))])) lk_0_98 pd_0 rfl oid_0 rfl rfl rfl rfl rfl rfl ⟨rfl, rfl, rfl, rfl, rfl⟩ d1_246 (c_k_clamp v1 (8 : Int32) (32 : Int32) (sA (sA (sA (sA (sA (sA (sA (sA (sA (sA (sA (sA (sA (sA (sA (sA (sA (sA (sA (sA (sA (sA (sA (sA (sA (sA (sA (sA (sA s0 0 (rep 8 0)) 1 (rep 8 0)) 2 (rep 8 0)) 3 (rep 8 0)) 4 (rep 8 0)) 5 (rep 64 0)) 6 (rep 64 0)) 7 (rep 64 0)) 8 (rep 32 0)) 9 (rep 32 0)) 10 (rep 32 0)) 11 (rep 32 0)) 12 (rep 32 0)) 13 (rep 256 0)) 14 (rep 256 0)) 15 (rep 256 0)) 16 (rep 64 0)) 17 (rep 64 0)) 18 (rep 32 0)) 19 (rep 8 0)) 20 (rep 8 0)) 21 (rep 8 0)) 22 (rep 8 0)) 23 (rep 8 0)) 24 (rep 8 0)) 25 (rep 8 0)) 26 (rep 8 0)) 27 (rep 8 0)) 28 (rep 8 0))) ?_
  refine go_putI (pc := 249) fs_102 hm_1 (wr_0 _) hn_1 d1_249 (go_aloadN (pc := 252) d1_252 rfl (go_aloadN (pc := 253) d1_253 rfl (go_iloadN (pc := 254) d1_254 rfl (go_iconst (pc := 255) d1_255 ci_4 (go_bipush (pc := 256) d1_256 cb_16 ?_)))))
  refine go_priv (pc := 258) (i := 0) (as := [.int v2, .int (4 : Int32), .int (16 : Int32)]) (rest := [.ref 1]) (w' := (none, [(29, sI (sA (sA (sA (sA (sA (sA (sA (sA (sA (sA (sA (sA (sA (sA (sA (sA (sA (sA (sA (sA (sA (sA (sA (sA (sA (sA (sA (sA (sA s0 0 (rep 8 0)) 1 (rep 8 0)) 2 (rep 8 0)) 3 (rep 8 0)) 4 (rep 8 0)) 5 (rep 64 0)) 6 (rep 64 0)) 7 (rep 64 0)) 8 (rep 32 0)) 9 (rep 32 0)) 10 (rep 32 0)) 11 (rep 32 0)) 12 (rep 32 0)) 13 (rep 256 0)) 14 (rep 256 0)) 15 (rep 256 0)) 16 (rep 64 0)) 17 (rep 64 0)) 18 (rep 32 0)) 19 (rep 8 0)) 20 (rep 8 0)) 21 (rep 8 0)) 22 (rep 8 0)) 23 (rep 8 0)) 24 (rep 8 0)) 25 (rep 8 0)) 26 (rep 8 0)) 27 (rep 8 0)) 28 (rep 8 0)) 0 (k_clamp v1 (8 : Int32) (32 : Int32)))])) lk_0_98 pd_0 rfl oid_0 rfl rfl rfl rfl rfl rfl ⟨rfl, rfl, rfl, rfl, rfl⟩ d1_258 (c_k_clamp v2 (4 : Int32) (16 : Int32) (sI (sA (sA (sA (sA (sA (sA (sA (sA (sA (sA (sA (sA (sA (sA (sA (sA (sA (sA (sA (sA (sA (sA (sA (sA (sA (sA (sA (sA (sA s0 0 (rep 8 0)) 1 (rep 8 0)) 2 (rep 8 0)) 3 (rep 8 0)) 4 (rep 8 0)) 5 (rep 64 0)) 6 (rep 64 0)) 7 (rep 64 0)) 8 (rep 32 0)) 9 (rep 32 0)) 10 (rep 32 0)) 11 (rep 32 0)) 12 (rep 32 0)) 13 (rep 256 0)) 14 (rep 256 0)) 15 (rep 256 0)) 16 (rep 64 0)) 17 (rep 64 0)) 18 (rep 32 0)) 19 (rep 8 0)) 20 (rep 8 0)) 21 (rep 8 0)) 22 (rep 8 0)) 23 (rep 8 0)) 24 (rep 8 0)) 25 (rep 8 0)) 26 (rep 8 0)) 27 (rep 8 0)) 28 (rep 8 0)) 0 (k_clamp v1 (8 : Int32) (32 : Int32)))) ?_
  refine go_putI (pc := 261) fs_106 hm_1 (wr_1 _) hn_1 d1_261 (go_aloadN (pc := 264) d1_264 rfl (go_aloadN (pc := 265) d1_265 rfl (go_iloadN (pc := 266) d1_266 rfl (go_iconst (pc := 267) d1_267 ci_2 (go_iconst (pc := 268) d1_268 ci_4 ?_)))))
  refine go_priv (pc := 269) (i := 0) (as := [.int v3, .int (2 : Int32), .int (4 : Int32)]) (rest := [.ref 1]) (w' := (none, [(29, sI (sI (sA (sA (sA (sA (sA (sA (sA (sA (sA (sA (sA (sA (sA (sA (sA (sA (sA (sA (sA (sA (sA (sA (sA (sA (sA (sA (sA (sA (sA s0 0 (rep 8 0)) 1 (rep 8 0)) 2 (rep 8 0)) 3 (rep 8 0)) 4 (rep 8 0)) 5 (rep 64 0)) 6 (rep 64 0)) 7 (rep 64 0)) 8 (rep 32 0)) 9 (rep 32 0)) 10 (rep 32 0)) 11 (rep 32 0)) 12 (rep 32 0)) 13 (rep 256 0)) 14 (rep 256 0)) 15 (rep 256 0)) 16 (rep 64 0)) 17 (rep 64 0)) 18 (rep 32 0)) 19 (rep 8 0)) 20 (rep 8 0)) 21 (rep 8 0)) 22 (rep 8 0)) 23 (rep 8 0)) 24 (rep 8 0)) 25 (rep 8 0)) 26 (rep 8 0)) 27 (rep 8 0)) 28 (rep 8 0)) 0 (k_clamp v1 (8 : Int32) (32 : Int32))) 1 (k_clamp v2 (4 : Int32) (16 : Int32)))])) lk_0_98 pd_0 rfl oid_0 rfl rfl rfl rfl rfl rfl ⟨rfl, rfl, rfl, rfl, rfl⟩ d1_269 (c_k_clamp v3 (2 : Int32) (4 : Int32) (sI (sI (sA (sA (sA (sA (sA (sA (sA (sA (sA (sA (sA (sA (sA (sA (sA (sA (sA (sA (sA (sA (sA (sA (sA (sA (sA (sA (sA (sA (sA s0 0 (rep 8 0)) 1 (rep 8 0)) 2 (rep 8 0)) 3 (rep 8 0)) 4 (rep 8 0)) 5 (rep 64 0)) 6 (rep 64 0)) 7 (rep 64 0)) 8 (rep 32 0)) 9 (rep 32 0)) 10 (rep 32 0)) 11 (rep 32 0)) 12 (rep 32 0)) 13 (rep 256 0)) 14 (rep 256 0)) 15 (rep 256 0)) 16 (rep 64 0)) 17 (rep 64 0)) 18 (rep 32 0)) 19 (rep 8 0)) 20 (rep 8 0)) 21 (rep 8 0)) 22 (rep 8 0)) 23 (rep 8 0)) 24 (rep 8 0)) 25 (rep 8 0)) 26 (rep 8 0)) 27 (rep 8 0)) 28 (rep 8 0)) 0 (k_clamp v1 (8 : Int32) (32 : Int32))) 1 (k_clamp v2 (4 : Int32) (16 : Int32)))) ?_
  refine go_putI (pc := 272) fs_109 hm_1 (wr_2 _) hn_1 d1_272 (go_aloadN (pc := 275) d1_275 rfl (go_iconst (pc := 276) d1_276 ci_m1 (go_putI (pc := 277) fs_112 hm_1 (wr_3 _) hn_1 d1_277 (go_aloadN (pc := 280) d1_280 rfl (go_iconst (pc := 281) d1_281 ci_m1 (go_putI (pc := 282) fs_115 hm_1 (wr_4 _) hn_1 d1_282 (go_aloadN (pc := 285) d1_285 rfl ?_)))))))
  refine go_iconst (pc := 286) d1_286 ci_m1 (go_putI (pc := 287) fs_118 hm_1 (wr_5 _) hn_1 d1_287 (go_iconst (pc := 290) d1_290 ci_0 (go_istore (pc := 291) (L' := [.val (.ref 1), .val (.int v1), .val (.int v2), .val (.int v3), .val (.int (0 : Int32))]) d1_291 rfl ?_)))
  exact k_init_293_ok BIG (0 : Int32) (sI (sI (sI (sI (sI (sI (sA (sA (sA (sA (sA (sA (sA (sA (sA (sA (sA (sA (sA (sA (sA (sA (sA (sA (sA (sA (sA (sA (sA (sA (sA (sA (sA (sA (sA s0 0 (rep 8 0)) 1 (rep 8 0)) 2 (rep 8 0)) 3 (rep 8 0)) 4 (rep 8 0)) 5 (rep 64 0)) 6 (rep 64 0)) 7 (rep 64 0)) 8 (rep 32 0)) 9 (rep 32 0)) 10 (rep 32 0)) 11 (rep 32 0)) 12 (rep 32 0)) 13 (rep 256 0)) 14 (rep 256 0)) 15 (rep 256 0)) 16 (rep 64 0)) 17 (rep 64 0)) 18 (rep 32 0)) 19 (rep 8 0)) 20 (rep 8 0)) 21 (rep 8 0)) 22 (rep 8 0)) 23 (rep 8 0)) 24 (rep 8 0)) 25 (rep 8 0)) 26 (rep 8 0)) 27 (rep 8 0)) 28 (rep 8 0)) 0 (k_clamp v1 (8 : Int32) (32 : Int32))) 1 (k_clamp v2 (4 : Int32) (16 : Int32))) 2 (k_clamp v3 (2 : Int32) (4 : Int32))) 3 (-1 : Int32)) 4 (-1 : Int32)) 5 (-1 : Int32)) (.val (.int v1)) (.val (.int v2)) (.val (.int v3)) (Or.inr ⟨_, rfl, rfl⟩) (Or.inr ⟨_, rfl, rfl⟩) (Or.inr ⟨_, rfl, rfl⟩) _ hf
theorem c_k_init (v1 : Int32) (v2 : Int32) (v3 : Int32) (o : S) (hf : k_init v1 v2 v3 = some o) : Call PP m1 [.ref 1, .int v1, .int v2, .int v3] (none, [(0, s0)]) (none, (none, [(29, o)])) := call_of_go pl_0 rfl (fun _ => rfl) (k_init_ok v1 v2 v3   _ hf)
set_option maxRecDepth 65536 in
set_option maxHeartbeats 4000000 in
theorem k_maxRows_ok  : ∀  (s : S)  (o : Int32), k_maxRows s = o → Go PP m2 0 [.val (.ref 1)] [] (none, [(29, s)]) (some (.int o), (none, [(29, s)])) := by
  intro s o hf
  unfold k_maxRows at hf
  refine go_aloadN (pc := 0) d2_0 rfl (go_getI (pc := 1) fs_102 hm_2 d2_1 ?_)
  cases hf
  exact go_iret (pc := 4) rfl d2_4
theorem c_k_maxRows (s : S) : Call PP m2 [.ref 1] (none, [(29, s)]) (some (.int (k_maxRows s)), (none, [(29, s)])) := call_of_go pl_0 rfl (fun h => nomatch h) (k_maxRows_ok s   _ rfl)
set_option maxRecDepth 65536 in
set_option maxHeartbeats 4000000 in
theorem k_rowCount_ok  : ∀  (s : S)  (o : Int32), k_rowCount s = o → Go PP m3 0 [.val (.ref 1)] [] (none, [(29, s)]) (some (.int o), (none, [(29, s)])) := by
  intro s o hf
  unfold k_rowCount at hf
  refine go_aloadN (pc := 0) d3_0 rfl (go_getI (pc := 1) fs_154 hm_3 d3_1 ?_)
  cases hf
  exact go_iret (pc := 4) rfl d3_4
theorem c_k_rowCount (s : S) : Call PP m3 [.ref 1] (none, [(29, s)]) (some (.int (k_rowCount s)), (none, [(29, s)])) := call_of_go pl_0 rfl (fun h => nomatch h) (k_rowCount_ok s   _ rfl)
set_option maxRecDepth 65536 in
set_option maxHeartbeats 4000000 in
theorem k_home_ok  {s : S} : ∀ (v1 : Int32)   (o : Int32), k_home v1 = o → Go PP m4 0 [.val (.ref 1), .val (.int v1)] [] (none, [(29, s)]) (some (.int o), (none, [(29, s)])) := by
  intro v1 o hf
  unfold k_home at hf
  refine go_iloadN (pc := 0) d4_0 rfl (go_ldcW (pc := 1) (v := (-1640531535 : Int32)) d4_1 (List.mem_of_getElem? (i := 110) rfl) (go_imul (pc := 4) d4_4 (go_bipush (pc := 5) d4_5 cb_26 (go_iushr (pc := 7) d4_7 ?_))))
  cases hf
  exact go_iret (pc := 8) rfl d4_8
theorem c_k_home (v1 : Int32) (s : S) : Call PP m4 [.ref 1, .int v1] (none, [(29, s)]) (some (.int (k_home v1)), (none, [(29, s)])) := call_of_go pl_0 rfl (fun h => nomatch h) (k_home_ok v1   _ rfl)
set_option maxRecDepth 65536 in
set_option maxHeartbeats 4000000 in
theorem k_hFind_11_ok  : ∀ (n : Nat) (v1 : Int32) (v2 : Int32) (v3 : Int32) (s : S)  (o : Int32), k_hFind_11 n v1 v2 v3 s = some o → Go PP m5 11 [.val (.ref 1), .val (.int v1), .val (.int v2), .val (.int v3)] [] (none, [(29, s)]) (some (.int o), (none, [(29, s)])) := by
  intro n
  induction n with
  | zero => intro v1 v2 v3 s o hf; exact nomatch hf
  | succ n ih =>
    intro v1 v2 v3 s o hf
    unfold k_hFind_11 at hf
    refine go_iloadN (pc := 11) d5_11 rfl (go_bipush (pc := 12) d5_12 cb_64 ?_)
    by_cases h1 : v3 < (64 : Int32)
    · replace hf := (if_pos h1).symm.trans hf
      refine go_icN (pc := 14) d5_14 (XT.ii_ge_f h1) ?_
      refine go_aloadN (pc := 17) d5_17 rfl (go_getA (pc := 18) fa_32 hm_5 d5_18 rfl (go_iloadN (pc := 21) d5_21 rfl ?_))
      obtain ⟨a22, e2, hf⟩ := Option.bind_eq_some_iff.mp hf
      refine go_baload (pc := 22) (q := 7) ar_7 (by decide) rfl e2 d5_22 ?_
      by_cases h3 : a22 = 0
      · replace hf := (if_pos h3).symm.trans hf
        refine go_ifN (pc := 23) d5_23 (XT.i0_ne_f h3) ?_
        refine go_iconst (pc := 26) d5_26 ci_m1 ?_
        cases hf
        exact go_iret (pc := 27) rfl d5_27
      · replace hf := (if_neg h3).symm.trans hf
        refine go_ifY (pc := 23) (pc' := 28) d5_23 (XT.i0_ne_t h3) j_23_5 ?_
        refine go_aloadN (pc := 28) d5_28 rfl (go_getA (pc := 29) fa_26 hm_5 d5_29 rfl (go_iloadN (pc := 32) d5_32 rfl ?_))
        obtain ⟨a33, e4, hf⟩ := Option.bind_eq_some_iff.mp hf
        refine go_iaload (pc := 33) (q := 5) ar_5 rfl e4 d5_33 ?_
        refine go_iloadN (pc := 34) d5_34 rfl ?_
        by_cases h5 : a33 = v1
        · replace hf := (if_pos h5).symm.trans hf
          refine go_icN (pc := 35) d5_35 (XT.ii_ne_f h5) ?_
          refine go_iloadN (pc := 38) d5_38 rfl ?_
          cases hf
          exact go_iret (pc := 39) rfl d5_39
        · replace hf := (if_neg h5).symm.trans hf
          refine go_icY (pc := 35) (pc' := 40) d5_35 (XT.ii_ne_t h5) j_35_5 ?_
          refine go_iloadN (pc := 40) d5_40 rfl (go_iconst (pc := 41) d5_41 ci_1 (go_iadd (pc := 42) d5_42 (go_bipush (pc := 43) d5_43 cb_63 (go_iand (pc := 45) d5_45 (go_istoreN (pc := 46) (L' := [.val (.ref 1), .val (.int v1), .val (.int ((v2 + (1 : Int32)) &&& (63 : Int32))), .val (.int v3)]) d5_46 rfl (go_iinc (pc := 47) (L' := [.val (.ref 1), .val (.int v1), .val (.int ((v2 + (1 : Int32)) &&& (63 : Int32))), .val (.int (v3 + (1 : Int32)))]) d5_47 rfl ci_1 rfl (go_goto (pc := 50) (pc' := 11) d5_50 j_50_m39 ?_)))))))
          exact ih v1 ((v2 + (1 : Int32)) &&& (63 : Int32)) (v3 + (1 : Int32)) s _ hf
    · replace hf := (if_neg h1).symm.trans hf
      refine go_icY (pc := 14) (pc' := 53) d5_14 (XT.ii_ge_t h1) j_14_39 ?_
      refine go_iconst (pc := 53) d5_53 ci_m1 ?_
      cases hf
      exact go_iret (pc := 54) rfl d5_54
set_option maxRecDepth 65536 in
set_option maxHeartbeats 4000000 in
theorem k_hFind_ok  : ∀ (v1 : Int32) (s : S)  (o : Int32), k_hFind v1 s = some o → Go PP m5 0 [.val (.ref 1), .val (.int v1), .unset, .unset] [] (none, [(29, s)]) (some (.int o), (none, [(29, s)])) := by
  intro v1 s o hf
  unfold k_hFind at hf
  refine go_aloadN (pc := 0) d5_0 rfl (go_iloadN (pc := 1) d5_1 rfl ?_)
  refine go_priv (pc := 2) (i := 0) (as := [.int v1]) (rest := []) (w' := (none, [(29, s)])) lk_0_259 pd_4 rfl oid_0 rfl rfl rfl rfl rfl rfl ⟨rfl, rfl, rfl, rfl, rfl⟩ d5_2 (c_k_home v1 s) ?_
  refine go_bipush (pc := 5) d5_5 cb_63 (go_iand (pc := 7) d5_7 (go_istoreN (pc := 8) (L' := [.val (.ref 1), .val (.int v1), .val (.int ((k_home v1) &&& (63 : Int32))), .unset]) d5_8 rfl (go_iconst (pc := 9) d5_9 ci_0 (go_istoreN (pc := 10) (L' := [.val (.ref 1), .val (.int v1), .val (.int ((k_home v1) &&& (63 : Int32))), .val (.int (0 : Int32))]) d5_10 rfl ?_))))
  exact k_hFind_11_ok BIG v1 ((k_home v1) &&& (63 : Int32)) (0 : Int32) s _ hf
theorem c_k_hFind (v1 : Int32) (s : S) (o : Int32) (hf : k_hFind v1 s = some o) : Call PP m5 [.ref 1, .int v1] (none, [(29, s)]) (some (.int o), (none, [(29, s)])) := call_of_go pl_0 rfl (fun h => nomatch h) (k_hFind_ok v1 s   _ hf)
set_option maxRecDepth 65536 in
set_option maxHeartbeats 4000000 in
theorem k_get_ok  : ∀ (v1 : Int32) (s : S)  (o : Int32), k_get v1 s = some o → Go PP m6 0 [.val (.ref 1), .val (.int v1), .unset] [] (none, [(29, s)]) (some (.int o), (none, [(29, s)])) := by
  intro v1 s o hf
  unfold k_get at hf
  refine go_aloadN (pc := 0) d6_0 rfl (go_iloadN (pc := 1) d6_1 rfl ?_)
  obtain ⟨r2, e1, hf⟩ := Option.bind_eq_some_iff.mp hf
  refine go_priv (pc := 2) (i := 0) (as := [.int v1]) (rest := []) (w' := (none, [(29, s)])) lk_0_147 pd_5 rfl oid_0 rfl rfl rfl rfl rfl rfl ⟨rfl, rfl, rfl, rfl, rfl⟩ d6_2 (c_k_hFind v1 s _ e1) ?_
  refine go_istoreN (pc := 5) (L' := [.val (.ref 1), .val (.int v1), .val (.int r2)]) d6_5 rfl (go_iloadN (pc := 6) d6_6 rfl ?_)
  by_cases h2 : r2 < 0
  · replace hf := (if_pos h2).symm.trans hf
    refine go_ifN (pc := 7) d6_7 (XT.i0_ge_f h2) ?_
    refine go_iconst (pc := 10) d6_10 ci_0 ?_
    cases hf
    exact go_iret (pc := 11) rfl d6_11
  · replace hf := (if_neg h2).symm.trans hf
    refine go_ifY (pc := 7) (pc' := 12) d6_7 (XT.i0_ge_t h2) j_7_5 ?_
    refine go_aloadN (pc := 12) d6_12 rfl (go_iloadN (pc := 13) d6_13 rfl ?_)
    exact nomatch hf
theorem c_k_get (v1 : Int32) (s : S) (o : Int32) (hf : k_get v1 s = some o) : Call PP m6 [.ref 1, .int v1] (none, [(29, s)]) (some (.int o), (none, [(29, s)])) := call_of_go pl_0 rfl (fun h => nomatch h) (k_get_ok v1 s   _ hf)
set_option maxRecDepth 65536 in
set_option maxHeartbeats 4000000 in
theorem k_readValue_ok  : ∀ (v1 : Int32) (s : S)  (o : Int32), k_readValue v1 s = some o → Go PP m7 0 [.val (.ref 1), .val (.int v1)] [] (none, [(29, s)]) (some (.int o), (none, [(29, s)])) := by
  intro v1 s o hf
  unfold k_readValue at hf
  refine go_iloadN (pc := 0) d7_0 rfl ?_
  by_cases h1 : v1 < 0
  · replace hf := (if_pos h1).symm.trans hf
    refine go_ifY (pc := 1) (pc' := 10) d7_1 (XT.i0_lt_t h1) j_1_9 ?_
    refine go_iconst (pc := 10) d7_10 ci_0 ?_
    cases hf
    exact go_iret (pc := 11) rfl d7_11
  · replace hf := (if_neg h1).symm.trans hf
    refine go_ifN (pc := 1) d7_1 (XT.i0_lt_f h1) ?_
    refine go_iloadN (pc := 4) d7_4 rfl (go_bipush (pc := 5) d7_5 cb_8 ?_)
    by_cases h2 : v1 < (8 : Int32)
    · replace hf := (if_pos h2).symm.trans hf
      refine go_icY (pc := 7) (pc' := 12) d7_7 (XT.ii_lt_t h2) j_7_5 ?_
      refine go_aloadN (pc := 12) d7_12 rfl (go_getA (pc := 13) fa_19 hm_7 d7_13 rfl (go_iloadN (pc := 16) d7_16 rfl ?_))
      obtain ⟨a17, e3, hf⟩ := Option.bind_eq_some_iff.mp hf
      refine go_iaload (pc := 17) (q := 3) ar_3 rfl e3 d7_17 ?_
      cases hf
      exact go_iret (pc := 18) rfl d7_18
    · replace hf := (if_neg h2).symm.trans hf
      refine go_icN (pc := 7) d7_7 (XT.ii_lt_f h2) ?_
      refine go_iconst (pc := 10) d7_10 ci_0 ?_
      cases hf
      exact go_iret (pc := 11) rfl d7_11
theorem c_k_readValue (v1 : Int32) (s : S) (o : Int32) (hf : k_readValue v1 s = some o) : Call PP m7 [.ref 1, .int v1] (none, [(29, s)]) (some (.int o), (none, [(29, s)])) := call_of_go pl_0 rfl (fun h => nomatch h) (k_readValue_ok v1 s   _ hf)
set_option maxRecDepth 65536 in
set_option maxHeartbeats 4000000 in
theorem k_lastFailIndex_ok  : ∀  (s : S)  (o : Int32), k_lastFailIndex s = o → Go PP m8 0 [.val (.ref 1)] [] (none, [(29, s)]) (some (.int o), (none, [(29, s)])) := by
  intro s o hf
  unfold k_lastFailIndex at hf
  refine go_aloadN (pc := 0) d8_0 rfl (go_getI (pc := 1) fs_112 hm_8 d8_1 ?_)
  cases hf
  exact go_iret (pc := 4) rfl d8_4
theorem c_k_lastFailIndex (s : S) : Call PP m8 [.ref 1] (none, [(29, s)]) (some (.int (k_lastFailIndex s)), (none, [(29, s)])) := call_of_go pl_0 rfl (fun h => nomatch h) (k_lastFailIndex_ok s   _ rfl)
set_option maxRecDepth 65536 in
set_option maxHeartbeats 4000000 in
theorem k_commit_ok  : ∀  (s : S)  (o : Int32 × S), k_commit s = some o → Go PP m9 0 [.val (.ref 1), .unset, .unset] [] (none, [(29, s)]) (some (.int o.1), (none, [(29, o.2)])) := by
  intro s o hf
  unfold k_commit at hf
  refine go_aloadN (pc := 0) d9_0 rfl (go_getI (pc := 1) fs_121 hm_9 d9_1 ?_)
  by_cases h1 : 0 < (gI s 7)
  · replace hf := (if_pos h1).symm.trans hf
    refine go_ifY (pc := 4) (pc' := 9) d9_4 (XT.i0_gt_t h1) j_4_5 ?_
    refine go_aloadN (pc := 9) d9_9 rfl (go_getI (pc := 10) fs_121 hm_9 d9_10 (go_istoreN (pc := 13) (L' := [.val (.ref 1), .val (.int (gI s 7)), .unset]) d9_13 rfl (go_aloadN (pc := 14) d9_14 rfl (go_iconst (pc := 15) d9_15 ci_0 (go_putI (pc := 16) fs_124 hm_9 (wr_8 _) hn_9 d9_16 (go_aloadN (pc := 19) d9_19 rfl ?_))))))
    exact nomatch hf
  · replace hf := (if_neg h1).symm.trans hf
    refine go_ifN (pc := 4) d9_4 (XT.i0_gt_f h1) ?_
    refine go_iconst (pc := 7) d9_7 ci_1 ?_
    cases hf
    exact go_iret (pc := 8) rfl d9_8
theorem c_k_commit (s : S) (o : Int32 × S) (hf : k_commit s = some o) : Call PP m9 [.ref 1] (none, [(29, s)]) (some (.int o.1), (none, [(29, o.2)])) := call_of_go pl_0 rfl (fun h => nomatch h) (k_commit_ok s   _ hf)
set_option maxRecDepth 65536 in
set_option maxHeartbeats 4000000 in
theorem law_35_ok  : ∀ (v3 : Int32) (v4 : Int32) (p0 : Int32) (t0 : S) (x0 : Slot) (x1 : Slot) (x2 : Slot) (hx0 : k1 x0) (hx1 : k1 x1) (hx2 : k1 x2) (o : Int32 × S), law_35 v3 v4 p0 t0 = some o → Go PP m10 35 [x0, x1, x2, .val (.int v3), .val (.int v4), .val (.ref 1), .unset] [.int p0] (none, [(29, t0)]) (some (.int o.1), (none, [(29, o.2)])) := by
  intro v3 v4 p0 t0 x0 x1 x2 hx0 hx1 hx2 o hf
  unfold law_35 at hf
  refine go_istore (pc := 35) (L' := [x0, x1, x2, .val (.int v3), .val (.int v4), .val (.ref 1), .val (.int p0)]) d10_35 rfl (go_aload (pc := 37) d10_37 rfl ?_)
  refine go_virt (pc := 39) (i := 0) (as := []) (rest := []) (w' := (none, [(29, t0)])) lk_1_12 pd_2 rfl oid_0 rfl rfl rfl rfl rfl rfl ⟨rfl, rfl, rfl, rfl, rfl⟩ d10_39 (c_k_maxRows t0) ?_
  refine go_iload (pc := 42) d10_42 rfl ?_
  by_cases h1 : (k_maxRows t0) = p0
  · replace hf := (if_pos h1).symm.trans hf
    refine go_icY (pc := 44) (pc' := 49) d10_44 (XT.ii_eq_t h1) j_44_5 ?_
    refine go_aload (pc := 49) d10_49 rfl ?_
    refine go_virt (pc := 51) (i := 0) (as := []) (rest := []) (w' := (none, [(29, t0)])) lk_1_16 pd_3 rfl oid_0 rfl rfl rfl rfl rfl rfl ⟨rfl, rfl, rfl, rfl, rfl⟩ d10_51 (c_k_rowCount t0) ?_
    by_cases h2 : (k_rowCount t0) = 0
    · replace hf := (if_pos h2).symm.trans hf
      refine go_ifY (pc := 54) (pc' := 59) d10_54 (XT.i0_eq_t h2) j_54_5 ?_
      refine go_aload (pc := 59) d10_59 rfl (go_iloadN (pc := 61) d10_61 rfl ?_)
      obtain ⟨r62, e3, hf⟩ := Option.bind_eq_some_iff.mp hf
      refine go_virt (pc := 62) (i := 0) (as := [.int v3]) (rest := []) (w' := (none, [(29, t0)])) lk_1_19 pd_6 rfl oid_0 rfl rfl rfl rfl rfl rfl ⟨rfl, rfl, rfl, rfl, rfl⟩ d10_62 (c_k_get v3 t0 _ e3) ?_
      by_cases h4 : r62 = 0
      · replace hf := (if_pos h4).symm.trans hf
        refine go_ifY (pc := 65) (pc' := 70) d10_65 (XT.i0_eq_t h4) j_65_5 ?_
        refine go_aload (pc := 70) d10_70 rfl (go_iload (pc := 72) d10_72 rfl ?_)
        obtain ⟨r74, e5, hf⟩ := Option.bind_eq_some_iff.mp hf
        refine go_virt (pc := 74) (i := 0) (as := [.int v4]) (rest := []) (w' := (none, [(29, t0)])) lk_1_23 pd_7 rfl oid_0 rfl rfl rfl rfl rfl rfl ⟨rfl, rfl, rfl, rfl, rfl⟩ d10_74 (c_k_readValue v4 t0 _ e5) ?_
        by_cases h6 : r74 = 0
        · replace hf := (if_pos h6).symm.trans hf
          refine go_ifY (pc := 77) (pc' := 82) d10_77 (XT.i0_eq_t h6) j_77_5 ?_
          refine go_aload (pc := 82) d10_82 rfl ?_
          refine go_virt (pc := 84) (i := 0) (as := []) (rest := []) (w' := (none, [(29, t0)])) lk_1_26 pd_8 rfl oid_0 rfl rfl rfl rfl rfl rfl ⟨rfl, rfl, rfl, rfl, rfl⟩ d10_84 (c_k_lastFailIndex t0) ?_
          refine go_iconst (pc := 87) d10_87 ci_m1 ?_
          by_cases h7 : (k_lastFailIndex t0) = (-1 : Int32)
          · replace hf := (if_pos h7).symm.trans hf
            refine go_icY (pc := 88) (pc' := 93) d10_88 (XT.ii_eq_t h7) j_88_5 ?_
            refine go_aload (pc := 93) d10_93 rfl ?_
            obtain ⟨r95, e8, hf⟩ := Option.bind_eq_some_iff.mp hf
            refine go_virt (pc := 95) (i := 0) (as := []) (rest := []) (w' := (none, [(29, r95.2)])) lk_1_29 pd_9 rfl oid_0 rfl rfl rfl rfl rfl rfl ⟨rfl, rfl, rfl, rfl, rfl⟩ d10_95 (c_k_commit t0 _ e8) ?_
            refine go_iconst (pc := 98) d10_98 ci_1 ?_
            by_cases h9 : r95.1 = (1 : Int32)
            · replace hf := (if_pos h9).symm.trans hf
              refine go_icY (pc := 99) (pc' := 104) d10_99 (XT.ii_eq_t h9) j_99_5 ?_
              refine go_iconst (pc := 104) d10_104 ci_1 ?_
              cases hf
              exact go_zret (pc := 105) rfl d10_105 (show (1 : Int32) = nar .boolean (1 : Int32) by decide)
            · replace hf := (if_neg h9).symm.trans hf
              refine go_icN (pc := 99) d10_99 (XT.ii_eq_f h9) ?_
              refine go_iconst (pc := 102) d10_102 ci_0 ?_
              cases hf
              exact go_zret (pc := 103) rfl d10_103 (show (0 : Int32) = nar .boolean (0 : Int32) by decide)
          · replace hf := (if_neg h7).symm.trans hf
            refine go_icN (pc := 88) d10_88 (XT.ii_eq_f h7) ?_
            refine go_iconst (pc := 91) d10_91 ci_0 ?_
            cases hf
            exact go_zret (pc := 92) rfl d10_92 (show (0 : Int32) = nar .boolean (0 : Int32) by decide)
        · replace hf := (if_neg h6).symm.trans hf
          refine go_ifN (pc := 77) d10_77 (XT.i0_eq_f h6) ?_
          refine go_iconst (pc := 80) d10_80 ci_0 ?_
          cases hf
          exact go_zret (pc := 81) rfl d10_81 (show (0 : Int32) = nar .boolean (0 : Int32) by decide)
      · replace hf := (if_neg h4).symm.trans hf
        refine go_ifN (pc := 65) d10_65 (XT.i0_eq_f h4) ?_
        refine go_iconst (pc := 68) d10_68 ci_0 ?_
        cases hf
        exact go_zret (pc := 69) rfl d10_69 (show (0 : Int32) = nar .boolean (0 : Int32) by decide)
    · replace hf := (if_neg h2).symm.trans hf
      refine go_ifN (pc := 54) d10_54 (XT.i0_eq_f h2) ?_
      refine go_iconst (pc := 57) d10_57 ci_0 ?_
      cases hf
      exact go_zret (pc := 58) rfl d10_58 (show (0 : Int32) = nar .boolean (0 : Int32) by decide)
  · replace hf := (if_neg h1).symm.trans hf
    refine go_icN (pc := 44) d10_44 (XT.ii_eq_f h1) ?_
    refine go_iconst (pc := 47) d10_47 ci_0 ?_
    cases hf
    exact go_zret (pc := 48) rfl d10_48 (show (0 : Int32) = nar .boolean (0 : Int32) by decide)
set_option maxRecDepth 65536 in
set_option maxHeartbeats 4000000 in
theorem law_ok  : ∀ (v0 : Int32) (v1 : Int32) (v2 : Int32) (v3 : Int32) (v4 : Int32)   (o : Int32 × S), law v0 v1 v2 v3 v4 = some o → Go PP m10 0 [.val (.int v0), .val (.int v1), .val (.int v2), .val (.int v3), .val (.int v4), .unset, .unset] [] (none, []) (some (.int o.1), (none, [(29, o.2)])) := by
  intro v0 v1 v2 v3 v4 o hf
  unfold law at hf
  refine go_new (pc := 0) (n := 0) (w' := (none, [(0, s0)])) (List.mem_of_getElem? (i := 0) rfl) rfl rfl rfl rfl rfl rfl rfl d10_0 oid_0 ?_
  refine go_dupR (pc := 3) d10_3 (go_iloadN (pc := 4) d10_4 rfl (go_iloadN (pc := 5) d10_5 rfl (go_iloadN (pc := 6) d10_6 rfl ?_)))
  obtain ⟨r7, e2, hf⟩ := Option.bind_eq_some_iff.mp hf
  refine go_init (pc := 7) (i := 0) (as := [.int v0, .int v1, .int v2]) (rest := [.ref 1]) (w' := (none, [(29, r7)])) lk_1_9 pd_1 rfl oid_0 rfl rfl rfl rfl rfl rfl rfl rfl rfl ⟨rfl, rfl, rfl⟩ ⟨rfl, rfl⟩ d10_7 (c_k_init v0 v1 v2 _ e2) ?_
  refine go_astore (pc := 10) (L' := [.val (.int v0), .val (.int v1), .val (.int v2), .val (.int v3), .val (.int v4), .val (.ref 1), .unset]) d10_10 rfl (go_iloadN (pc := 12) d10_12 rfl (go_bipush (pc := 13) d10_13 cb_8 ?_))
  by_cases h3 : v0 < (8 : Int32)
  · refine go_icN (pc := 15) d10_15 (XT.ii_ge_f h3) ?_
    refine go_bipush (pc := 18) d10_18 cb_8 (go_goto (pc := 20) (pc' := 35) d10_20 j_20_15 ?_)
    exact law_35_ok v3 v4 (8 : Int32) r7 (.val (.int v0)) (.val (.int v1)) (.val (.int v2)) (Or.inr ⟨_, rfl, rfl⟩) (Or.inr ⟨_, rfl, rfl⟩) (Or.inr ⟨_, rfl, rfl⟩) _ (by simpa only [if_pos h3] using hf)
  · refine go_icY (pc := 15) (pc' := 23) d10_15 (XT.ii_ge_t h3) j_15_8 ?_
    refine go_iloadN (pc := 23) d10_23 rfl (go_bipush (pc := 24) d10_24 cb_32 ?_)
    by_cases h4 : (32 : Int32) < v0
    · refine go_icN (pc := 26) d10_26 (XT.ii_le_f h4) ?_
      refine go_bipush (pc := 29) d10_29 cb_32 (go_goto (pc := 31) (pc' := 35) d10_31 j_31_4 ?_)
      exact law_35_ok v3 v4 (32 : Int32) r7 (.val (.int v0)) (.val (.int v1)) (.val (.int v2)) (Or.inr ⟨_, rfl, rfl⟩) (Or.inr ⟨_, rfl, rfl⟩) (Or.inr ⟨_, rfl, rfl⟩) _ (by simpa only [if_neg h3, if_pos h4] using hf)
    · refine go_icY (pc := 26) (pc' := 34) d10_26 (XT.ii_le_t h4) j_26_8 ?_
      refine go_iloadN (pc := 34) d10_34 rfl ?_
      exact law_35_ok v3 v4 v0 r7 (.val (.int v0)) (.val (.int v1)) (.val (.int v2)) (Or.inr ⟨_, rfl, rfl⟩) (Or.inr ⟨_, rfl, rfl⟩) (Or.inr ⟨_, rfl, rfl⟩) _ (by simpa only [if_neg h3, if_neg h4] using hf)
theorem own_fill : ∀ n k s, k ≤ 32 → 32 - k < n → (gA s 11).length = 32 → (gA s 12).length = 32 → ∃ s', k_init_293 n (Int32.ofNat k) s = some s' ∧ Fx [] [] [11, 12] [] s s' := by
  intro n
  induction n with
  | zero => intro k s h1 h2; omega
  | succ n ih =>
    intro k s h1 h2 l1 l2
    unfold k_init_293
    by_cases q : k < 32
    · rw [if_pos ((lt_lit (by omega)).mpr q), st_ofNat _ _ (by omega) (by omega), Option.bind_some, st_ofNat _ _ (by omega) (by omega), Option.bind_some, ofNat_succ]
      obtain ⟨s', e, F⟩ := ih (k + 1) (sA (sA s 11 ((gA s 11).set k (-1))) 12 ((gA s 12).set k (-1))) (by omega) (by omega) (by simp [gA_sA, l1]) (by simp [gA_sA, l2])
      exact ⟨s', e, (((Fx.refl [] [] [11, 12] [] s).sA (by simp)).sA (by simp)).trans F⟩
    · rw [if_neg (fun h => q ((lt_lit (by omega)).mp h))]
      exact ⟨s, rfl, Fx.refl ..⟩
theorem own_find (s : S) (h7 : gA s 7 = rep 64 0) (v1 v2 : Int32) (n : Nat) (q : ¬ v2 < 0) (r : v2 < 64) : k_hFind_11 (n + 1) v1 v2 0 s = some (-1) := by
  unfold k_hFind_11
  rw [h7, ix_rep (n := 64) q r (by omega)]
  simp
theorem own_63 (x : Int32) : ¬ (x &&& 63) < 0 ∧ (x &&& 63) < 64 := by
  have h : (x &&& 63).toInt = ((x.toBitVec &&& 63#32).toNat : Int) := by
    show (x.toBitVec &&& 63#32).toInt = _
    rw [BitVec.toInt_eq_toNat_of_lt]
    rw [BitVec.toNat_and]
    have : x.toBitVec.toNat &&& (63#32).toNat ≤ 63 := Nat.and_le_right
    omega
  have h2 : (x.toBitVec &&& 63#32).toNat ≤ 63 := by rw [BitVec.toNat_and]; exact Nat.and_le_right
  have a : (0 : Int32).toInt = 0 := rfl
  have b : (64 : Int32).toInt = 64 := rfl
  rw [Int32.lt_iff_toInt_lt, Int32.lt_iff_toInt_lt, h, a, b]
  omega
theorem law_true (v0 v1 v2 v3 v4 : Int32) : ∃ t, law v0 v1 v2 v3 v4 = some (1, t) := by
  obtain ⟨s, e0, h0, h3, h6, h7, A3, A7⟩ : ∃ s, k_init v0 v1 v2 = some s ∧ gI s 0 = (if v0 < 8 then 8 else if 32 < v0 then 32 else v0) ∧ gI s 3 = -1 ∧ gI s 6 = 0 ∧ gI s 7 = 0 ∧ gA s 3 = rep 8 0 ∧ gA s 7 = rep 64 0 := by
    obtain ⟨X, eX, x0, x3, x6, x7, y3, y7, y11, y12⟩ : ∃ X, k_init v0 v1 v2 = k_init_293 BIG (Int32.ofNat 0) X ∧ gI X 0 = (if v0 < 8 then 8 else if 32 < v0 then 32 else v0) ∧ gI X 3 = -1 ∧ gI X 6 = 0 ∧ gI X 7 = 0 ∧ gA X 3 = rep 8 0 ∧ gA X 7 = rep 64 0 ∧ (gA X 11).length = 32 ∧ (gA X 12).length = 32 := by
      refine ⟨_, by unfold k_init; rfl, ?_, ?_, ?_, ?_, ?_, ?_, ?_, ?_⟩
      · simp [gI_sI, gI_sA, k_clamp]
      · simp [gI_sI]
      · simp [gI_sI, gI_sA, gI_s0]
      · simp [gI_sI, gI_sA, gI_s0]
      · simp [gA_sI, gA_sA]
      · simp [gA_sI, gA_sA]
      · simp [gA_sI, gA_sA, rep_length]
      · simp [gA_sI, gA_sA, rep_length]
    obtain ⟨s, e, F⟩ := own_fill BIG 0 X (by omega) (by unfold BIG; omega) y11 y12
    exact ⟨s, eX.trans e, (F.1 0 (by simp)).trans x0, (F.1 3 (by simp)).trans x3, (F.1 6 (by simp)).trans x6, (F.1 7 (by simp)).trans x7, (F.2.2.1 3 (by simp)).trans y3, (F.2.2.1 7 (by simp)).trans y7⟩
  have hf : k_get v3 s = some 0 := by
    unfold k_get k_hFind
    rw [show BIG = 999999 + 1 from rfl, own_find s A7 v3 _ 999999 (own_63 _).1 (own_63 _).2]
    simp
  have hr : k_readValue v4 s = some 0 := by
    unfold k_readValue
    by_cases q : v4 < 0
    · simp [q]
    · by_cases r : v4 < 8
      · rw [A3, ix_rep (n := 8) q r (by omega)]; simp [q, r]
      · simp [q, r]
  have hc : k_commit s = some (1, s) := by unfold k_commit; rw [h7]; simp
  refine ⟨s, ?_⟩
  unfold law
  simp [e0, law_35, k_maxRows, h0, k_rowCount, h6, hf, hr, k_lastFailIndex, h3, hc]
set_option maxRecDepth 65536 in
set_option maxHeartbeats 40000000 in
theorem comes_1 {Post : Tables → Env → Array Value → State → Outcome → State → Prop} (hpost : ∀ tb e args s v u, (limb_1_1.after args s (.returned v) u = true ∧ limb_1_2.after args s (.returned v) u = true ∧ True) → FrameEnd s (.returned v) u (Jvm.fieldLocs frame_1_writes args s ++ Jvm.arrayLocs frame_1_arrays args s ++ Jvm.staticLocs frame_1_statics s) 72 3008 → Post tb e args s (.returned v) u) :
    ArmFor flags0 classFile x code maxLocals ret World_1 tables_1 room_1 Calls_1 rest_1 Pre_1 Post := by
  intro l hfl _ _ p e ha hc hk s m args below hf hA hF happ hP
  obtain ⟨hcalls, hrest, hpre⟩ := hP
  obtain ⟨-, -, -, hnamed, -, -, -, hat⟩ := (Spec.applies_iff hf).mp happ
  obtain ⟨hg, hn⟩ := and_e (Cond.before_iff.mp (show (Jvm.Cond.and given_1 narrow_1).before args s = true from hpre))
  obtain ⟨g0, b0⟩ := and_e hg
  obtain ⟨a0, b1⟩ := and_e b0
  obtain ⟨a1, b2⟩ := and_e b1
  obtain ⟨a2, b3⟩ := and_e b2
  obtain ⟨a3, b4⟩ := and_e b3
  have a4 := b4
  obtain ⟨w0, w1, w2, w3, w4, rfl⟩ : ∃ w0 w1 w2 w3 w4 : Value, args = #[w0, w1, w2, w3, w4] := by
    have hs : args.size = 5 := by simpa [Cond.value, given_1] using g0
    obtain ⟨L⟩ := args
    match L, hs with
    | [w0, w1, w2, w3, w4], _ => exact ⟨w0, w1, w2, w3, w4, rfl⟩
  have hw := fun d (hd : d ∈ tables_1) => atoms_spec (ws := Jvm.Cond.code x code maxLocals ret :: tables_1) hat d (List.mem_cons_of_mem _ hd)
  have hfit : Fit s := fun {y c} hc i hi => by
    obtain ⟨ha, rfl⟩ := Array.getElem?_eq_some_iff.mp hc
    have q := List.all_eq_true.mp ((Array.all_eq_true_iff_forall_mem.mp hF) _ (Array.getElem_mem ha)) i (List.mem_range.mpr hi)
    simpa [Array.getElem?_eq_getElem hi] using q
  obtain ⟨i0, ei0⟩ := is_v a0
  obtain rfl : w0 = (.int i0) := Option.some.inj ei0
  obtain ⟨i1, ei1⟩ := is_v a1
  obtain rfl : w1 = (.int i1) := Option.some.inj ei1
  obtain ⟨i2, ei2⟩ := is_v a2
  obtain rfl : w2 = (.int i2) := Option.some.inj ei2
  obtain ⟨i3, ei3⟩ := is_v a3
  obtain rfl : w3 = (.int i3) := Option.some.inj ei3
  obtain ⟨i4, ei4⟩ := is_v a4
  obtain rfl : w4 = (.int i4) := Option.some.inj ei4
  obtain ⟨t, ht⟩ := law_true i0 i1 i2 i3 i4
  have C : Call PP m10 [.int i0, .int i1, .int i2, .int i3, .int i4] (none, []) (some (.int ((1 : Int32), t).1), (none, [(29, ((1 : Int32), t).2)])) := call_of_go pl_1 rfl (fun h => by cases h) (law_ok i0 i1 i2 i3 i4 _ ht)
  obtain ⟨n, o, h1, h2, h3, _, L, rfl, ⟨rfl, N, _⟩, hq⟩ := C l s _ tables_1 0 s.heap.size s.heap.size s.heap hw (facts1 hw) (Nat.le_refl _) (repW_none ..) (by decide) (fun _ => ⟨rfl, rfl, rfl⟩) p e ha hc hk s m _ below hf ((Spec.applies_iff_loose hf).mp happ).1 ⟨rfl, State.Warmed39.refl s, rfl⟩ trivial
  refine ⟨n, _, h1, h2, h3, hpost _ _ _ _ _ _ ⟨Cond.after_iff.mpr rfl, Cond.after_iff.mpr (eq_i res_at (Term.int_eval (1)) rfl), trivial⟩ ⟨hq.1, hq.2.1, (hq.2.2.sift fun y hy => Or.inr (N y hy)).mono (by decide) (by decide)⟩⟩
theorem main_1_1 : Claimed_1_1 := comes_1 fun _ _ _ _ _ _ h hF => ⟨h.1, hF⟩
theorem main_1_2 : Claimed_1_2 := comes_1 fun _ _ _ _ _ _ h hF => ⟨h.2.1, hF⟩
end Jvm.Pilot.@@N@@
namespace Jvm.Pilot.@@N@@
open Jvm Jvm.ClassFile Sem Op Lib Jvm.Free Jvm.Stand Jvm.Pilot.@@N@@.Jvm.D
/-! MADE BY PROGRAM (witnessworld.py) out of the Statement's table words and the real class files: 11 classes; the members and pool entries that the words name. The judged class is class 1, her method 1. -/
namespace start1
open Jvm.ClassFile
def u (s : String) : CpInfo := .utf8 (stringToUtf16 s)
/-- a pool by its gaps: so many unusable entries, then the entry; so many at the end -/
def gap : Nat → List CpInfo → List CpInfo
  | 0, r => r
  | n + 1, r => .unusable :: gap n r
def poolList (es : List (Nat × CpInfo)) (last : Nat) : List CpInfo := es.foldr (fun e r => gap e.1 (e.2 :: r)) (gap last [])
def pool (es : List (Nat × CpInfo)) (last : Nat) : Array CpInfo := ⟨poolList es last⟩
def fileOf (pool : Array CpInfo) (this : Nat) (attrs : Array Attribute := #[]) (ms : Array MethodInfo := #[]) (fl : Nat := 33) (sup : Nat := 0) (ifs : Array Nat := #[]) (fds : Array FieldInfo := #[]) : ClassFile where
  minorVersion := 0
  majorVersion := 65
  constantPool := pool
  accessFlags := fl
  thisClass := this
  superClass := sup
  interfaces := ifs
  fields := fds
  methods := ms
  attributes := attrs
def plain (name : String) (sup : Option ClassId) : Class where
  name := name
  kind := .ordinary
  loader := none
  accessFlags := 33
  super := sup
  interfaces := #[]
  cf := none
  fields := #[]
  methods := #[]
  instanceTypes := #[]
  staticTypes := #[]
  resolved := #[]
  callSites := []
  init := .initialized
  statics := none
  mirror := none

def pool0 : Array CpInfo := pool [(5, u "<init>"), (0, u "()V"), (1, .class_ 10), (1, u "java/lang/Object")] 113

def k0c0 : Code := { maxStack := 0, maxLocals := 1, code := object_method_1_code, exceptionTable := #[], attributes := #[] }
def k0m0 : Method := { name := "<init>", desc := "()V", sig := { parameters := [], returnType := none }, accessFlags := 1, code := some k0c0 }
/-- java/lang/Object -/
def k0 : Class := { plain "java/lang/Object" none with
  accessFlags := 33
  interfaces := #[]
  cf := some (fileOf pool0 8 #[] #[{ accessFlags := 1, nameIndex := 5, descriptorIndex := 6, attributes := #[] }] 33 0 #[] #[])
  fields := #[]
  methods := #[k0m0]
  instanceTypes := #[]
  staticTypes := #[]
  resolved := Array.replicate 124 none
  statics := none }

def pool1 : Array CpInfo := pool [(2, .class_ 4), (1, u "java/lang/Object"), (0, u "<init>"), (0, u "()V"), (0, .class_ 8), (0, u "AntiCacheStore"), (0, .methodref 7 10), (0, .nameAndType 5 11), (0, u "(III)V"), (0, .methodref 7 13), (0, .nameAndType 14 15), (0, u "maxRows"), (0, u "()I"), (0, .methodref 7 17), (0, .nameAndType 18 15), (0, u "rowCount"), (0, .methodref 7 20), (0, .nameAndType 21 22), (0, u "get"), (0, u "(I)I"), (0, .methodref 7 24), (0, .nameAndType 25 22), (0, u "readValue"), (0, .methodref 7 27), (0, .nameAndType 28 15), (0, u "lastFailIndex"), (0, .methodref 7 30), (0, .nameAndType 31 15), (0, u "commit"), (0, .class_ 33), (0, u "AntiCacheStoreL1"), (2, u "law"), (0, u "(IIIII)Z")] 3

def k1m0 : Method := { name := "<init>", desc := "()V", sig := { parameters := [], returnType := none }, accessFlags := 1, code := none }
def k1c1 : Code := { maxStack := 5, maxLocals := 7, code := code, exceptionTable := #[], attributes := #[] }
def k1m1 : Method := { name := "law", desc := "(IIIII)Z", sig := { parameters := [.int, .int, .int, .int, .int], returnType := some .boolean }, accessFlags := 9, code := some k1c1 }
/-- AntiCacheStoreL1 -/
def k1 : Class := { plain "AntiCacheStoreL1" (some 0) with
  accessFlags := 33
  interfaces := #[]
  cf := some (fileOf pool1 32 #[] #[{ accessFlags := 1, nameIndex := 5, descriptorIndex := 6, attributes := #[] }, { accessFlags := 9, nameIndex := 36, descriptorIndex := 37, attributes := #[] }] 33 2 #[] #[])
  fields := #[]
  methods := #[k1m0, k1m1]
  instanceTypes := #[]
  staticTypes := #[]
  resolved := Array.replicate 41 none
  statics := none }

def pool2 : Array CpInfo := pool [(1, .methodref 2 3), (0, .class_ 4), (0, .nameAndType 5 6), (0, u "java/lang/Object"), (0, u "<init>"), (0, u "()V"), (0, .fieldref 8 9), (0, .class_ 10), (0, .nameAndType 11 12), (0, u "AntiCacheStore"), (0, u "pendKind"), (0, u "[I"), (0, .fieldref 8 14), (0, .nameAndType 15 12), (0, u "pendKey"), (0, .fieldref 8 17), (0, .nameAndType 18 12), (0, u "pendVal"), (0, .fieldref 8 20), (0, .nameAndType 21 12), (0, u "resVal"), (0, .fieldref 8 23), (0, .nameAndType 24 25), (0, u "resFound"), (0, u "[Z"), (0, .fieldref 8 27), (0, .nameAndType 28 12), (0, u "idxKey"), (0, .fieldref 8 30), (0, .nameAndType 31 12), (0, u "idxLoc"), (0, .fieldref 8 33), (0, .nameAndType 34 25), (0, u "idxUsed"), (0, .fieldref 8 36), (0, .nameAndType 37 12), (0, u "memKey"), (0, .fieldref 8 39), (0, .nameAndType 40 12), (0, u "memVal"), (0, .fieldref 8 42), (0, .nameAndType 43 25), (0, u "memUsed"), (0, .fieldref 8 45), (0, .nameAndType 46 12), (0, u "lruPrev"), (0, .fieldref 8 48), (0, .nameAndType 49 12), (0, u "lruNext"), (0, .fieldref 8 51), (0, .nameAndType 52 12), (0, u "diskKey"), (0, .fieldref 8 54), (0, .nameAndType 55 12), (0, u "diskVal"), (0, .fieldref 8 57), (0, .nameAndType 58 25), (0, u "diskLive"), (0, .fieldref 8 60), (0, .nameAndType 61 12), (0, u "blockLive"), (0, .fieldref 8 63), (0, .nameAndType 64 25), (0, u "blockUsed"), (0, .fieldref 8 66), (0, .nameAndType 67 12), (0, u "sortedKeys"), (0, .fieldref 8 69), (0, .nameAndType 70 12), (0, u "seenKey"), (0, .fieldref 8 72), (0, .nameAndType 73 12), (0, u "seenVal"), (0, .fieldref 8 75), (0, .nameAndType 76 25), (0, u "seenPresent"), (0, .fieldref 8 78), (0, .nameAndType 79 12), (0, u "wsKey"), (0, .fieldref 8 81), (0, .nameAndType 82 12), (0, u "wsVal"), (0, .fieldref 8 84), (0, .nameAndType 85 25), (0, u "wsPresent"), (0, .fieldref 8 87), (0, .nameAndType 88 12), (0, u "wsOrigVal"), (0, .fieldref 8 90), (0, .nameAndType 91 25), (0, u "wsOrigPresent"), (0, .fieldref 8 93), (0, .nameAndType 94 12), (0, u "tryVal"), (0, .fieldref 8 96), (0, .nameAndType 97 25), (0, u "tryFound"), (0, .methodref 8 99), (0, .nameAndType 100 101), (0, u "clamp"), (0, u "(III)I"), (0, .fieldref 8 103), (0, .nameAndType 104 105), (0, u "rowLimit"), (0, u "I"), (0, .fieldref 8 107), (0, .nameAndType 108 105), (0, u "memLimit"), (0, .fieldref 8 110), (0, .nameAndType 111 105), (0, u "tuplesPerBlock"), (0, .fieldref 8 113), (0, .nameAndType 114 105), (0, u "failIndex"), (0, .fieldref 8 116), (0, .nameAndType 117 105), (0, u "lruHead"), (0, .fieldref 8 119), (0, .nameAndType 120 105), (0, u "lruTail"), (0, .fieldref 8 122), (0, .nameAndType 123 105), (0, u "pendCount"), (0, .fieldref 8 125), (0, .nameAndType 126 105), (0, u "seenCount"), (3, u "()I"), (3, .fieldref 8 135), (0, .nameAndType 136 105), (0, u "tryFail"), (7, .fieldref 8 145), (0, .nameAndType 146 105), (0, u "okCommits"), (0, .methodref 8 148), (0, .nameAndType 149 150), (0, u "hFind"), (0, u "(I)I"), (3, .fieldref 8 155), (0, .nameAndType 156 105), (0, u "rows"), (8, u "restarts"), (2, u "wantedKey"), (5, u "wsCount"), (2, u "viewCount"), (70, u "fetchedTuples"), (9, .integer 2654435761), (0, .methodref 8 260), (0, .nameAndType 261 150), (0, u "home"), (8, u "memCount"), (15, u "evictedBlocks"), (8, u "fetchedBlocks"), (3, u "MAX_OPS"), (2, u "OP_READ"), (1, u "OP_WRITE"), (1, u "OP_DELETE"), (1, u "OP_ADD"), (1, u "OP_INSERT"), (1, u "OP_EXPECT"), (1, u "ST_OK"), (1, u "ST_EMPTY"), (0, u "ST_MISSING"), (0, u "ST_MISMATCH"), (0, u "ST_EXISTS"), (0, u "ST_FULL"), (0, u "(III)V"), (7, u "commit"), (0, u "readValue"), (1, u "lastFailIndex"), (2, u "get"), (0, u "rowCount"), (3, u "maxRows")] 2

def k2c0 : Code := { maxStack := 5, maxLocals := 5, code := prog_1_method_1_code, exceptionTable := #[], attributes := #[] }
def k2m0 : Method := { name := "<init>", desc := "(III)V", sig := { parameters := [.int, .int, .int], returnType := none }, accessFlags := 1, code := some k2c0 }
def k2c1 : Code := { maxStack := 3, maxLocals := 3, code := prog_1_method_5_code, exceptionTable := #[], attributes := #[] }
def k2m1 : Method := { name := "commit", desc := "()I", sig := { parameters := [], returnType := some .int }, accessFlags := 1, code := some k2c1 }
def k2c2 : Code := { maxStack := 2, maxLocals := 2, code := prog_1_method_6_code, exceptionTable := #[], attributes := #[] }
def k2m2 : Method := { name := "readValue", desc := "(I)I", sig := { parameters := [.int], returnType := some .int }, accessFlags := 1, code := some k2c2 }
def k2c3 : Code := { maxStack := 1, maxLocals := 1, code := prog_1_method_8_code, exceptionTable := #[], attributes := #[] }
def k2m3 : Method := { name := "lastFailIndex", desc := "()I", sig := { parameters := [], returnType := some .int }, accessFlags := 1, code := some k2c3 }
def k2c4 : Code := { maxStack := 2, maxLocals := 3, code := prog_1_method_11_code, exceptionTable := #[], attributes := #[] }
def k2m4 : Method := { name := "get", desc := "(I)I", sig := { parameters := [.int], returnType := some .int }, accessFlags := 1, code := some k2c4 }
def k2c5 : Code := { maxStack := 1, maxLocals := 1, code := prog_1_method_12_code, exceptionTable := #[], attributes := #[] }
def k2m5 : Method := { name := "rowCount", desc := "()I", sig := { parameters := [], returnType := some .int }, accessFlags := 1, code := some k2c5 }
def k2c6 : Code := { maxStack := 1, maxLocals := 1, code := prog_1_method_15_code, exceptionTable := #[], attributes := #[] }
def k2m6 : Method := { name := "maxRows", desc := "()I", sig := { parameters := [], returnType := some .int }, accessFlags := 1, code := some k2c6 }
def k2c7 : Code := { maxStack := 2, maxLocals := 4, code := prog_1_method_16_code, exceptionTable := #[], attributes := #[] }
def k2m7 : Method := { name := "clamp", desc := "(III)I", sig := { parameters := [.int, .int, .int], returnType := some .int }, accessFlags := 2, code := some k2c7 }
def k2c8 : Code := { maxStack := 2, maxLocals := 2, code := prog_1_method_38_code, exceptionTable := #[], attributes := #[] }
def k2m8 : Method := { name := "home", desc := "(I)I", sig := { parameters := [.int], returnType := some .int }, accessFlags := 2, code := some k2c8 }
def k2c9 : Code := { maxStack := 2, maxLocals := 4, code := prog_1_method_39_code, exceptionTable := #[], attributes := #[] }
def k2m9 : Method := { name := "hFind", desc := "(I)I", sig := { parameters := [.int], returnType := some .int }, accessFlags := 2, code := some k2c9 }
/-- AntiCacheStore -/
def k2 : Class := { plain "AntiCacheStore" (some 0) with
  accessFlags := 49
  interfaces := #[]
  cf := some (fileOf pool2 8 #[] #[{ accessFlags := 1, nameIndex := 5, descriptorIndex := 321, attributes := #[] }, { accessFlags := 1, nameIndex := 329, descriptorIndex := 130, attributes := #[] }, { accessFlags := 1, nameIndex := 330, descriptorIndex := 150, attributes := #[] }, { accessFlags := 1, nameIndex := 332, descriptorIndex := 130, attributes := #[] }, { accessFlags := 1, nameIndex := 335, descriptorIndex := 150, attributes := #[] }, { accessFlags := 1, nameIndex := 336, descriptorIndex := 130, attributes := #[] }, { accessFlags := 1, nameIndex := 340, descriptorIndex := 130, attributes := #[] }, { accessFlags := 2, nameIndex := 100, descriptorIndex := 101, attributes := #[] }, { accessFlags := 2, nameIndex := 261, descriptorIndex := 150, attributes := #[] }, { accessFlags := 2, nameIndex := 149, descriptorIndex := 150, attributes := #[] }] 49 2 #[] #[{ accessFlags := 25, nameIndex := 299, descriptorIndex := 105, attributes := #[] }, { accessFlags := 25, nameIndex := 302, descriptorIndex := 105, attributes := #[] }, { accessFlags := 25, nameIndex := 304, descriptorIndex := 105, attributes := #[] }, { accessFlags := 25, nameIndex := 306, descriptorIndex := 105, attributes := #[] }, { accessFlags := 25, nameIndex := 308, descriptorIndex := 105, attributes := #[] }, { accessFlags := 25, nameIndex := 310, descriptorIndex := 105, attributes := #[] }, { accessFlags := 25, nameIndex := 312, descriptorIndex := 105, attributes := #[] }, { accessFlags := 25, nameIndex := 314, descriptorIndex := 105, attributes := #[] }, { accessFlags := 25, nameIndex := 316, descriptorIndex := 105, attributes := #[] }, { accessFlags := 25, nameIndex := 317, descriptorIndex := 105, attributes := #[] }, { accessFlags := 25, nameIndex := 318, descriptorIndex := 105, attributes := #[] }, { accessFlags := 25, nameIndex := 319, descriptorIndex := 105, attributes := #[] }, { accessFlags := 25, nameIndex := 320, descriptorIndex := 105, attributes := #[] }, { accessFlags := 2, nameIndex := 104, descriptorIndex := 105, attributes := #[] }, { accessFlags := 2, nameIndex := 108, descriptorIndex := 105, attributes := #[] }, { accessFlags := 2, nameIndex := 111, descriptorIndex := 105, attributes := #[] }, { accessFlags := 18, nameIndex := 11, descriptorIndex := 12, attributes := #[] }, { accessFlags := 18, nameIndex := 15, descriptorIndex := 12, attributes := #[] }, { accessFlags := 18, nameIndex := 18, descriptorIndex := 12, attributes := #[] }, { accessFlags := 2, nameIndex := 123, descriptorIndex := 105, attributes := #[] }, { accessFlags := 18, nameIndex := 21, descriptorIndex := 12, attributes := #[] }, { accessFlags := 18, nameIndex := 24, descriptorIndex := 25, attributes := #[] }, { accessFlags := 2, nameIndex := 114, descriptorIndex := 105, attributes := #[] }, { accessFlags := 2, nameIndex := 146, descriptorIndex := 105, attributes := #[] }, { accessFlags := 18, nameIndex := 28, descriptorIndex := 12, attributes := #[] }, { accessFlags := 18, nameIndex := 31, descriptorIndex := 12, attributes := #[] }, { accessFlags := 18, nameIndex := 34, descriptorIndex := 25, attributes := #[] }, { accessFlags := 18, nameIndex := 37, descriptorIndex := 12, attributes := #[] }, { accessFlags := 18, nameIndex := 40, descriptorIndex := 12, attributes := #[] }, { accessFlags := 18, nameIndex := 43, descriptorIndex := 25, attributes := #[] }, { accessFlags := 18, nameIndex := 46, descriptorIndex := 12, attributes := #[] }, { accessFlags := 18, nameIndex := 49, descriptorIndex := 12, attributes := #[] }, { accessFlags := 2, nameIndex := 117, descriptorIndex := 105, attributes := #[] }, { accessFlags := 2, nameIndex := 120, descriptorIndex := 105, attributes := #[] }, { accessFlags := 2, nameIndex := 270, descriptorIndex := 105, attributes := #[] }, { accessFlags := 18, nameIndex := 52, descriptorIndex := 12, attributes := #[] }, { accessFlags := 18, nameIndex := 55, descriptorIndex := 12, attributes := #[] }, { accessFlags := 18, nameIndex := 58, descriptorIndex := 25, attributes := #[] }, { accessFlags := 18, nameIndex := 61, descriptorIndex := 12, attributes := #[] }, { accessFlags := 18, nameIndex := 64, descriptorIndex := 25, attributes := #[] }, { accessFlags := 18, nameIndex := 67, descriptorIndex := 12, attributes := #[] }, { accessFlags := 2, nameIndex := 156, descriptorIndex := 105, attributes := #[] }, { accessFlags := 18, nameIndex := 70, descriptorIndex := 12, attributes := #[] }, { accessFlags := 18, nameIndex := 73, descriptorIndex := 12, attributes := #[] }, { accessFlags := 18, nameIndex := 76, descriptorIndex := 25, attributes := #[] }, { accessFlags := 2, nameIndex := 126, descriptorIndex := 105, attributes := #[] }, { accessFlags := 18, nameIndex := 79, descriptorIndex := 12, attributes := #[] }, { accessFlags := 18, nameIndex := 82, descriptorIndex := 12, attributes := #[] }, { accessFlags := 18, nameIndex := 85, descriptorIndex := 25, attributes := #[] }, { accessFlags := 18, nameIndex := 88, descriptorIndex := 12, attributes := #[] }, { accessFlags := 18, nameIndex := 91, descriptorIndex := 25, attributes := #[] }, { accessFlags := 2, nameIndex := 174, descriptorIndex := 105, attributes := #[] }, { accessFlags := 2, nameIndex := 177, descriptorIndex := 105, attributes := #[] }, { accessFlags := 18, nameIndex := 94, descriptorIndex := 12, attributes := #[] }, { accessFlags := 18, nameIndex := 97, descriptorIndex := 25, attributes := #[] }, { accessFlags := 2, nameIndex := 136, descriptorIndex := 105, attributes := #[] }, { accessFlags := 2, nameIndex := 168, descriptorIndex := 105, attributes := #[] }, { accessFlags := 2, nameIndex := 165, descriptorIndex := 105, attributes := #[] }, { accessFlags := 2, nameIndex := 286, descriptorIndex := 105, attributes := #[] }, { accessFlags := 2, nameIndex := 295, descriptorIndex := 105, attributes := #[] }, { accessFlags := 2, nameIndex := 248, descriptorIndex := 105, attributes := #[] }])
  fields := #[{ name := "MAX_OPS", type := .int, accessFlags := 25, slot := 0, constantValue := 0 }, { name := "OP_READ", type := .int, accessFlags := 25, slot := 1, constantValue := 0 }, { name := "OP_WRITE", type := .int, accessFlags := 25, slot := 2, constantValue := 0 }, { name := "OP_DELETE", type := .int, accessFlags := 25, slot := 3, constantValue := 0 }, { name := "OP_ADD", type := .int, accessFlags := 25, slot := 4, constantValue := 0 }, { name := "OP_INSERT", type := .int, accessFlags := 25, slot := 5, constantValue := 0 }, { name := "OP_EXPECT", type := .int, accessFlags := 25, slot := 6, constantValue := 0 }, { name := "ST_OK", type := .int, accessFlags := 25, slot := 7, constantValue := 0 }, { name := "ST_EMPTY", type := .int, accessFlags := 25, slot := 8, constantValue := 0 }, { name := "ST_MISSING", type := .int, accessFlags := 25, slot := 9, constantValue := 0 }, { name := "ST_MISMATCH", type := .int, accessFlags := 25, slot := 10, constantValue := 0 }, { name := "ST_EXISTS", type := .int, accessFlags := 25, slot := 11, constantValue := 0 }, { name := "ST_FULL", type := .int, accessFlags := 25, slot := 12, constantValue := 0 }, { name := "rowLimit", type := .int, accessFlags := 2, slot := 0, constantValue := 0 }, { name := "memLimit", type := .int, accessFlags := 2, slot := 1, constantValue := 0 }, { name := "tuplesPerBlock", type := .int, accessFlags := 2, slot := 2, constantValue := 0 }, { name := "pendKind", type := (.array .int), accessFlags := 18, slot := 3, constantValue := 0 }, { name := "pendKey", type := (.array .int), accessFlags := 18, slot := 4, constantValue := 0 }, { name := "pendVal", type := (.array .int), accessFlags := 18, slot := 5, constantValue := 0 }, { name := "pendCount", type := .int, accessFlags := 2, slot := 6, constantValue := 0 }, { name := "resVal", type := (.array .int), accessFlags := 18, slot := 7, constantValue := 0 }, { name := "resFound", type := (.array .boolean), accessFlags := 18, slot := 8, constantValue := 0 }, { name := "failIndex", type := .int, accessFlags := 2, slot := 9, constantValue := 0 }, { name := "okCommits", type := .int, accessFlags := 2, slot := 10, constantValue := 0 }, { name := "idxKey", type := (.array .int), accessFlags := 18, slot := 11, constantValue := 0 }, { name := "idxLoc", type := (.array .int), accessFlags := 18, slot := 12, constantValue := 0 }, { name := "idxUsed", type := (.array .boolean), accessFlags := 18, slot := 13, constantValue := 0 }, { name := "memKey", type := (.array .int), accessFlags := 18, slot := 14, constantValue := 0 }, { name := "memVal", type := (.array .int), accessFlags := 18, slot := 15, constantValue := 0 }, { name := "memUsed", type := (.array .boolean), accessFlags := 18, slot := 16, constantValue := 0 }, { name := "lruPrev", type := (.array .int), accessFlags := 18, slot := 17, constantValue := 0 }, { name := "lruNext", type := (.array .int), accessFlags := 18, slot := 18, constantValue := 0 }, { name := "lruHead", type := .int, accessFlags := 2, slot := 19, constantValue := 0 }, { name := "lruTail", type := .int, accessFlags := 2, slot := 20, constantValue := 0 }, { name := "memCount", type := .int, accessFlags := 2, slot := 21, constantValue := 0 }, { name := "diskKey", type := (.array .int), accessFlags := 18, slot := 22, constantValue := 0 }, { name := "diskVal", type := (.array .int), accessFlags := 18, slot := 23, constantValue := 0 }, { name := "diskLive", type := (.array .boolean), accessFlags := 18, slot := 24, constantValue := 0 }, { name := "blockLive", type := (.array .int), accessFlags := 18, slot := 25, constantValue := 0 }, { name := "blockUsed", type := (.array .boolean), accessFlags := 18, slot := 26, constantValue := 0 }, { name := "sortedKeys", type := (.array .int), accessFlags := 18, slot := 27, constantValue := 0 }, { name := "rows", type := .int, accessFlags := 2, slot := 28, constantValue := 0 }, { name := "seenKey", type := (.array .int), accessFlags := 18, slot := 29, constantValue := 0 }, { name := "seenVal", type := (.array .int), accessFlags := 18, slot := 30, constantValue := 0 }, { name := "seenPresent", type := (.array .boolean), accessFlags := 18, slot := 31, constantValue := 0 }, { name := "seenCount", type := .int, accessFlags := 2, slot := 32, constantValue := 0 }, { name := "wsKey", type := (.array .int), accessFlags := 18, slot := 33, constantValue := 0 }, { name := "wsVal", type := (.array .int), accessFlags := 18, slot := 34, constantValue := 0 }, { name := "wsPresent", type := (.array .boolean), accessFlags := 18, slot := 35, constantValue := 0 }, { name := "wsOrigVal", type := (.array .int), accessFlags := 18, slot := 36, constantValue := 0 }, { name := "wsOrigPresent", type := (.array .boolean), accessFlags := 18, slot := 37, constantValue := 0 }, { name := "wsCount", type := .int, accessFlags := 2, slot := 38, constantValue := 0 }, { name := "viewCount", type := .int, accessFlags := 2, slot := 39, constantValue := 0 }, { name := "tryVal", type := (.array .int), accessFlags := 18, slot := 40, constantValue := 0 }, { name := "tryFound", type := (.array .boolean), accessFlags := 18, slot := 41, constantValue := 0 }, { name := "tryFail", type := .int, accessFlags := 2, slot := 42, constantValue := 0 }, { name := "wantedKey", type := .int, accessFlags := 2, slot := 43, constantValue := 0 }, { name := "restarts", type := .int, accessFlags := 2, slot := 44, constantValue := 0 }, { name := "evictedBlocks", type := .int, accessFlags := 2, slot := 45, constantValue := 0 }, { name := "fetchedBlocks", type := .int, accessFlags := 2, slot := 46, constantValue := 0 }, { name := "fetchedTuples", type := .int, accessFlags := 2, slot := 47, constantValue := 0 }]
  methods := #[k2m0, k2m1, k2m2, k2m3, k2m4, k2m5, k2m6, k2m7, k2m8, k2m9]
  instanceTypes := #[.int, .int, .int, (.array .int), (.array .int), (.array .int), .int, (.array .int), (.array .boolean), .int, .int, (.array .int), (.array .int), (.array .boolean), (.array .int), (.array .int), (.array .boolean), (.array .int), (.array .int), .int, .int, .int, (.array .int), (.array .int), (.array .boolean), (.array .int), (.array .boolean), (.array .int), .int, (.array .int), (.array .int), (.array .boolean), .int, (.array .int), (.array .int), (.array .boolean), (.array .int), (.array .boolean), .int, .int, (.array .int), (.array .boolean), .int, .int, .int, .int, .int, .int]
  staticTypes := #[.int, .int, .int, .int, .int, .int, .int, .int, .int, .int, .int, .int, .int]
  resolved := Array.replicate 343 none
  statics := none }

def pool3 : Array CpInfo := pool [(1, u "java/lang/Cloneable"), (0, .class_ 1), (0, u "java/lang/Object"), (0, .class_ 3)] 3

/-- java/lang/Cloneable -/
def k3 : Class := { plain "java/lang/Cloneable" (some 0) with
  accessFlags := 1537
  interfaces := #[]
  cf := some (fileOf pool3 2 #[] #[] 1537 4 #[] #[])
  fields := #[]
  methods := #[]
  instanceTypes := #[]
  staticTypes := #[]
  resolved := Array.replicate 8 none
  statics := none }

def pool4 : Array CpInfo := pool [(1, u "java/io/Serializable"), (0, .class_ 1), (0, u "java/lang/Object"), (0, .class_ 3)] 3

/-- java/io/Serializable -/
def k4 : Class := { plain "java/io/Serializable" (some 0) with
  accessFlags := 1537
  interfaces := #[]
  cf := some (fileOf pool4 2 #[] #[] 1537 4 #[] #[])
  fields := #[]
  methods := #[]
  instanceTypes := #[]
  staticTypes := #[]
  resolved := Array.replicate 8 none
  statics := none }

/-- the primitive boolean -/
def k5 : Class := { plain "boolean" none with kind := .primitive 'Z', accessFlags := 0x411 }
/-- [Z -/
def k6 : Class := { plain "[Z" (some 0) with kind := .array 5 .boolean, interfaces := #[3, 4], accessFlags := 1041 }

/-- the primitive byte -/
def k7 : Class := { plain "byte" none with kind := .primitive 'B', accessFlags := 0x411 }
/-- [B -/
def k8 : Class := { plain "[B" (some 0) with kind := .array 7 .byte, interfaces := #[3, 4], accessFlags := 1041 }

/-- the primitive int -/
def k9 : Class := { plain "int" none with kind := .primitive 'I', accessFlags := 0x411 }
/-- [I -/
def k10 : Class := { plain "[I" (some 0) with kind := .array 9 .int, interfaces := #[3, 4], accessFlags := 1041 }

def heap : Heap := #[]
def classes : Array Class := #[k0, k1, k2, k3, k4, k5, k6, k7, k8, k9, k10]
def interned : List (Array UInt16 × Addr) := []
def slotsUsed : Nat := 0
def theMethod : MethodId := ⟨1, 1⟩
def args0 : Array Value := #[.int 5, .int 5, .int 5, .int 5, .int 5]
def aboutOver (below : List Frame) : State where
  vm := { classes := classes, interned := interned.toArray }
  heap := heap
  slotsUsed := slotsUsed
  threads := #[{ frames := .invoking theMethod args0 :: below }]
def below0 : List Frame := [.native { method := ⟨0, 0⟩, args := #[] }]
def about1 : State := aboutOver below0
def p0 : Program := .bare "" "" ""
def e0 : Env := launch0.env 0 0 0
theorem w_frames : about1.frames = Frame.invoking theMethod args0 :: below0 := rfl
set_option maxRecDepth 65536 in
theorem w_args : argsFit about1.vm theMethod args0 = true := by decide +kernel
set_option maxRecDepth 65536 in
theorem w_heap : heapFits about1 = true := by decide +kernel
set_option maxRecDepth 65536 in
theorem w_runnable : about1.curStatus? = some .runnable := by decide +kernel
set_option maxRecDepth 65536 in
theorem w_alone : about1.alone = true := by decide +kernel
set_option maxRecDepth 65536 in
theorem w_named : about1.methodNamed? x = some theMethod := by decide +kernel
set_option maxRecDepth 65536 in
theorem w_hears : about1.hears theMethod below0 = true := by decide +kernel
set_option maxRecDepth 65536 in
theorem w_ripe : about1.ripe theMethod args0 below0 = true := by decide +kernel
theorem w_running : about1.status = .running := rfl
set_option maxRecDepth 65536 in
theorem w_room : about1.hasRoom e0.platform room_1 = true :=
  launch0.hasRoom_least _ room_1 (by decide +kernel) (by decide +kernel) (by decide +kernel) (by decide +kernel) (by decide +kernel) (by decide +kernel)
theorem allAtoms_all (ts : List Jvm.Cond) (a : Array Jvm.Value) (st : Jvm.State) : (allAtoms ts).before a st = ts.all (fun c => c.before a st) := by
  induction ts with
  | nil => rfl
  | cons c t ih =>
    show (Jvm.Cond.and c (allAtoms t)).before a st = _
    rw [Jvm.Cond.before_and, ih, List.all_cons]
def words1 : List Jvm.Cond := Jvm.Cond.code x code maxLocals ret :: tables_1
/-- a 'code' word, met by the world's own term for the bytes: nothing is compared byte by byte -/
theorem code_word {y : MethodName} {bytes : ByteArray} {mx : Nat} {rt : Option FieldType} {a : Array Value} {s : State} {m : MethodId} {meth : Method} {c : Code} (h1 : s.methodNamed? y = some m) (h2 : s.vm.method? m = some meth) (h3 : meth.code = some c) (h4 : c.code = bytes)
    (h5 : (c.maxLocals == mx && c.exceptionTable.isEmpty && decide (c.maxStack ≤ mostOperands) && decide (meth.sig.returnType = rt) && !meth.locks && decide (parseMethodDescriptor y.desc = some meth.sig)) = true) : (Jvm.Cond.code y bytes mx rt).before a s = true := by
  simp only [Bool.and_eq_true, beq_iff_eq, Bool.not_eq_true', decide_eq_true_eq] at h5
  obtain ⟨⟨⟨⟨⟨g1, g2⟩, g3⟩, g4⟩, g5⟩, g6⟩ := h5
  simp [Cond.before, Cond.holds, Cond.value, h1, h2, h3, h4, g1, g2, g3, g4, g5, g6]
def isCode : Jvm.Cond → Bool
  | .code _ _ _ _ => true
  | _ => false
theorem all_split {L : List Jvm.Cond} {P : Jvm.Cond → Bool} (h1 : L.all (fun c => isCode c || P c) = true) (h2 : ∀ c ∈ L.filter isCode, P c = true) : L.all P = true := by
  refine List.all_eq_true.mpr fun c hc => ?_
  have h := List.all_eq_true.mp h1 c hc
  rcases Bool.eq_false_or_eq_true (isCode c) with hi | hi
  · exact h2 c (List.mem_filter.mpr ⟨hc, hi⟩)
  · simpa [hi] using h
set_option maxRecDepth 65536 in
theorem w_c0 : (Jvm.Cond.code x code maxLocals ret).before args0 about1 = true := code_word (m := ⟨1, 1⟩) (meth := k1m1) (c := k1c1) (by decide +kernel) rfl rfl rfl (by decide +kernel)
set_option maxRecDepth 65536 in
theorem w_c1 : (Jvm.Cond.code ({ cls := "AntiCacheStore", name := "<init>", desc := "(III)V" } : Jvm.MethodName) prog_1_method_1_code (5 : Nat) (Option.none : Option Jvm.ClassFile.FieldType)).before args0 about1 = true := code_word (m := ⟨2, 0⟩) (meth := k2m0) (c := k2c0) (by decide +kernel) rfl rfl rfl (by decide +kernel)
set_option maxRecDepth 65536 in
theorem w_c2 : (Jvm.Cond.code ({ cls := "java/lang/Object", name := "<init>", desc := "()V" } : Jvm.MethodName) object_method_1_code (1 : Nat) (Option.none : Option Jvm.ClassFile.FieldType)).before args0 about1 = true := code_word (m := ⟨0, 0⟩) (meth := k0m0) (c := k0c0) (by decide +kernel) rfl rfl rfl (by decide +kernel)
set_option maxRecDepth 65536 in
theorem w_c3 : (Jvm.Cond.code ({ cls := "AntiCacheStore", name := "clamp", desc := "(III)I" } : Jvm.MethodName) prog_1_method_16_code (4 : Nat) (Option.some Jvm.ClassFile.FieldType.int)).before args0 about1 = true := code_word (m := ⟨2, 7⟩) (meth := k2m7) (c := k2c7) (by decide +kernel) rfl rfl rfl (by decide +kernel)
set_option maxRecDepth 65536 in
theorem w_c4 : (Jvm.Cond.code ({ cls := "AntiCacheStore", name := "maxRows", desc := "()I" } : Jvm.MethodName) prog_1_method_15_code (1 : Nat) (Option.some Jvm.ClassFile.FieldType.int)).before args0 about1 = true := code_word (m := ⟨2, 6⟩) (meth := k2m6) (c := k2c6) (by decide +kernel) rfl rfl rfl (by decide +kernel)
set_option maxRecDepth 65536 in
theorem w_c5 : (Jvm.Cond.code ({ cls := "AntiCacheStore", name := "rowCount", desc := "()I" } : Jvm.MethodName) prog_1_method_12_code (1 : Nat) (Option.some Jvm.ClassFile.FieldType.int)).before args0 about1 = true := code_word (m := ⟨2, 5⟩) (meth := k2m5) (c := k2c5) (by decide +kernel) rfl rfl rfl (by decide +kernel)
set_option maxRecDepth 65536 in
theorem w_c6 : (Jvm.Cond.code ({ cls := "AntiCacheStore", name := "get", desc := "(I)I" } : Jvm.MethodName) prog_1_method_11_code (3 : Nat) (Option.some Jvm.ClassFile.FieldType.int)).before args0 about1 = true := code_word (m := ⟨2, 4⟩) (meth := k2m4) (c := k2c4) (by decide +kernel) rfl rfl rfl (by decide +kernel)
set_option maxRecDepth 65536 in
theorem w_c7 : (Jvm.Cond.code ({ cls := "AntiCacheStore", name := "hFind", desc := "(I)I" } : Jvm.MethodName) prog_1_method_39_code (4 : Nat) (Option.some Jvm.ClassFile.FieldType.int)).before args0 about1 = true := code_word (m := ⟨2, 9⟩) (meth := k2m9) (c := k2c9) (by decide +kernel) rfl rfl rfl (by decide +kernel)
set_option maxRecDepth 65536 in
theorem w_c8 : (Jvm.Cond.code ({ cls := "AntiCacheStore", name := "home", desc := "(I)I" } : Jvm.MethodName) prog_1_method_38_code (2 : Nat) (Option.some Jvm.ClassFile.FieldType.int)).before args0 about1 = true := code_word (m := ⟨2, 8⟩) (meth := k2m8) (c := k2c8) (by decide +kernel) rfl rfl rfl (by decide +kernel)
set_option maxRecDepth 65536 in
theorem w_c9 : (Jvm.Cond.code ({ cls := "AntiCacheStore", name := "readValue", desc := "(I)I" } : Jvm.MethodName) prog_1_method_6_code (2 : Nat) (Option.some Jvm.ClassFile.FieldType.int)).before args0 about1 = true := code_word (m := ⟨2, 2⟩) (meth := k2m2) (c := k2c2) (by decide +kernel) rfl rfl rfl (by decide +kernel)
set_option maxRecDepth 65536 in
theorem w_c10 : (Jvm.Cond.code ({ cls := "AntiCacheStore", name := "lastFailIndex", desc := "()I" } : Jvm.MethodName) prog_1_method_8_code (1 : Nat) (Option.some Jvm.ClassFile.FieldType.int)).before args0 about1 = true := code_word (m := ⟨2, 3⟩) (meth := k2m3) (c := k2c3) (by decide +kernel) rfl rfl rfl (by decide +kernel)
set_option maxRecDepth 65536 in
theorem w_c11 : (Jvm.Cond.code ({ cls := "AntiCacheStore", name := "commit", desc := "()I" } : Jvm.MethodName) prog_1_method_5_code (3 : Nat) (Option.some Jvm.ClassFile.FieldType.int)).before args0 about1 = true := code_word (m := ⟨2, 1⟩) (meth := k2m1) (c := k2c1) (by decide +kernel) rfl rfl rfl (by decide +kernel)
def codes1 : List Jvm.Cond := [Jvm.Cond.code x code maxLocals ret, Jvm.Cond.code ({ cls := "AntiCacheStore", name := "<init>", desc := "(III)V" } : Jvm.MethodName) prog_1_method_1_code (5 : Nat) (Option.none : Option Jvm.ClassFile.FieldType), Jvm.Cond.code ({ cls := "java/lang/Object", name := "<init>", desc := "()V" } : Jvm.MethodName) object_method_1_code (1 : Nat) (Option.none : Option Jvm.ClassFile.FieldType), Jvm.Cond.code ({ cls := "AntiCacheStore", name := "clamp", desc := "(III)I" } : Jvm.MethodName) prog_1_method_16_code (4 : Nat) (Option.some Jvm.ClassFile.FieldType.int), Jvm.Cond.code ({ cls := "AntiCacheStore", name := "maxRows", desc := "()I" } : Jvm.MethodName) prog_1_method_15_code (1 : Nat) (Option.some Jvm.ClassFile.FieldType.int), Jvm.Cond.code ({ cls := "AntiCacheStore", name := "rowCount", desc := "()I" } : Jvm.MethodName) prog_1_method_12_code (1 : Nat) (Option.some Jvm.ClassFile.FieldType.int), Jvm.Cond.code ({ cls := "AntiCacheStore", name := "get", desc := "(I)I" } : Jvm.MethodName) prog_1_method_11_code (3 : Nat) (Option.some Jvm.ClassFile.FieldType.int), Jvm.Cond.code ({ cls := "AntiCacheStore", name := "hFind", desc := "(I)I" } : Jvm.MethodName) prog_1_method_39_code (4 : Nat) (Option.some Jvm.ClassFile.FieldType.int), Jvm.Cond.code ({ cls := "AntiCacheStore", name := "home", desc := "(I)I" } : Jvm.MethodName) prog_1_method_38_code (2 : Nat) (Option.some Jvm.ClassFile.FieldType.int), Jvm.Cond.code ({ cls := "AntiCacheStore", name := "readValue", desc := "(I)I" } : Jvm.MethodName) prog_1_method_6_code (2 : Nat) (Option.some Jvm.ClassFile.FieldType.int), Jvm.Cond.code ({ cls := "AntiCacheStore", name := "lastFailIndex", desc := "()I" } : Jvm.MethodName) prog_1_method_8_code (1 : Nat) (Option.some Jvm.ClassFile.FieldType.int), Jvm.Cond.code ({ cls := "AntiCacheStore", name := "commit", desc := "()I" } : Jvm.MethodName) prog_1_method_5_code (3 : Nat) (Option.some Jvm.ClassFile.FieldType.int)]
set_option maxRecDepth 65536 in
theorem codes_eq : words1.filter isCode = codes1 := rfl
theorem w_codes : ∀ c ∈ words1.filter isCode, c.before args0 about1 = true := by
  rw [codes_eq]
  intro c hc
  simp only [codes1, List.mem_cons, List.not_mem_nil, or_false] at hc
  rcases hc with rfl | rfl | rfl | rfl | rfl | rfl | rfl | rfl | rfl | rfl | rfl | rfl
  · exact w_c0
  · exact w_c1
  · exact w_c2
  · exact w_c3
  · exact w_c4
  · exact w_c5
  · exact w_c6
  · exact w_c7
  · exact w_c8
  · exact w_c9
  · exact w_c10
  · exact w_c11
set_option maxRecDepth 65536 in
theorem w_t1 : (words1.take 24).all (fun c => isCode c || c.before args0 about1) = true := by decide +kernel
set_option maxRecDepth 65536 in
theorem w_t2 : ((words1.drop 24).take 24).all (fun c => isCode c || c.before args0 about1) = true := by decide +kernel
set_option maxRecDepth 65536 in
theorem w_t3 : (((words1.drop 24).drop 24).take 24).all (fun c => isCode c || c.before args0 about1) = true := by decide +kernel
set_option maxRecDepth 65536 in
theorem w_t4 : ((((words1.drop 24).drop 24).drop 24).take 24).all (fun c => isCode c || c.before args0 about1) = true := by decide +kernel
set_option maxRecDepth 65536 in
theorem w_t5 : (((((words1.drop 24).drop 24).drop 24).drop 24).take 24).all (fun c => isCode c || c.before args0 about1) = true := by decide +kernel
set_option maxRecDepth 65536 in
theorem w_t6 : (((((words1.drop 24).drop 24).drop 24).drop 24).drop 24).all (fun c => isCode c || c.before args0 about1) = true := by decide +kernel
theorem w_tables : (allAtoms (Jvm.Cond.code x code maxLocals ret :: tables_1)).before args0 about1 = true := by
  rw [allAtoms_all]
  show words1.all (fun c => c.before args0 about1) = true
  refine all_split ?_ w_codes
  rw [← List.take_append_drop 24 words1, List.all_append, w_t1, ← List.take_append_drop 24 (words1.drop 24), List.all_append, w_t2, ← List.take_append_drop 24 ((words1.drop 24).drop 24), List.all_append, w_t3, ← List.take_append_drop 24 (((words1.drop 24).drop 24).drop 24), List.all_append, w_t4, ← List.take_append_drop 24 ((((words1.drop 24).drop 24).drop 24).drop 24), List.all_append, w_t5, w_t6]
  rfl
set_option maxRecDepth 65536 in
theorem w_case : (Jvm.Cond.and given_1 narrow_1).before args0 about1 = true := by decide +kernel
theorem w_applies : (headSpec (Jvm.Cond.code x code maxLocals ret :: tables_1) room_1).applies x e0.platform about1 = true :=
  (Spec.applies_iff w_frames).mpr ⟨w_running, w_runnable, w_alone, w_named, w_hears, w_ripe, w_room, w_tables⟩
theorem atStart : AtStart classFile x code maxLocals ret World_1 tables_1 room_1 Calls_1 rest_1 Pre_1 launch0 p0 e0 about1 theMethod args0 below0 :=
  ⟨lists_1, trivial, launch0.admits_env _ _ _, launch0.least_env, fairChoices_fair.cas, fairChoices_fair.clock, w_frames, w_args, w_heap, w_applies, trivial, trivial, w_case⟩
end start1
theorem witness_1 : WitnessClaimed_1 := ⟨start1.p0, start1.e0, start1.about1, start1.theMethod, start1.args0, start1.below0, start1.atStart⟩
end Jvm.Pilot.@@N@@
