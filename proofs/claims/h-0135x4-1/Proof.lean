import JvmDerived
import JvmDerived.Pilot.@@N@@Statement
import JvmDerived.Pilot.@@N@@Code
set_option linter.unusedVariables false
set_option linter.unusedSimpArgs false
namespace Jvm.AM
open Sem ClassFile Op Lib Jvm.Stand Jvm.Free Jvm.LawKit Jvm.RoadKit
/-! ## 1. The abstract objects: one object of the class, its scalars and its arrays by number -/
abbrev S : Type := (Nat → Int32) × (Nat → Int64) × (Nat → List Int32) × (Nat → List Int64)
def upd {A : Type} (g : Nat → A) (f : Nat) (v : A) : Nat → A := fun x => if x = f then v else g x
def gI (s : S) (f : Nat) : Int32 := s.1 f
def gL (s : S) (f : Nat) : Int64 := s.2.1 f
def gA (s : S) (f : Nat) : List Int32 := s.2.2.1 f
def gB (s : S) (f : Nat) : List Int64 := s.2.2.2 f
def sI (s : S) (f : Nat) (v : Int32) : S := (upd s.1 f v, s.2)
def sL (s : S) (f : Nat) (v : Int64) : S := (s.1, upd s.2.1 f v, s.2.2)
def sA (s : S) (f : Nat) (v : List Int32) : S := (s.1, s.2.1, upd s.2.2.1 f v, s.2.2.2)
def sB (s : S) (f : Nat) (v : List Int64) : S := (s.1, s.2.1, s.2.2.1, upd s.2.2.2 f v)
def s0 : S := (fun _ => 0, fun _ => 0, fun _ => [], fun _ => [])
theorem gI_s0 (f : Nat) : gI s0 f = 0 := by simp only [gI, s0]
theorem gL_s0 (f : Nat) : gL s0 f = 0 := by simp only [gL, s0]
theorem gA_s0 (f : Nat) : gA s0 f = [] := by simp only [gA, s0]
theorem gB_s0 (f : Nat) : gB s0 f = [] := by simp only [gB, s0]
theorem gI_sI (s : S) (f g : Nat) (v : Int32) : gI (sI s f v) g = if g = f then v else gI s g := by simp only [gI, gL, gA, gB, sI, sL, sA, sB, upd]
theorem gI_sL (s : S) (f g : Nat) (v : Int64) : gI (sL s f v) g = gI s g := by simp only [gI, gL, gA, gB, sI, sL, sA, sB, upd]
theorem gI_sA (s : S) (f g : Nat) (v : List Int32) : gI (sA s f v) g = gI s g := by simp only [gI, gL, gA, gB, sI, sL, sA, sB, upd]
theorem gI_sB (s : S) (f g : Nat) (v : List Int64) : gI (sB s f v) g = gI s g := by simp only [gI, gL, gA, gB, sI, sL, sA, sB, upd]
theorem gL_sI (s : S) (f g : Nat) (v : Int32) : gL (sI s f v) g = gL s g := by simp only [gI, gL, gA, gB, sI, sL, sA, sB, upd]
theorem gL_sL (s : S) (f g : Nat) (v : Int64) : gL (sL s f v) g = if g = f then v else gL s g := by simp only [gI, gL, gA, gB, sI, sL, sA, sB, upd]
theorem gL_sA (s : S) (f g : Nat) (v : List Int32) : gL (sA s f v) g = gL s g := by simp only [gI, gL, gA, gB, sI, sL, sA, sB, upd]
theorem gL_sB (s : S) (f g : Nat) (v : List Int64) : gL (sB s f v) g = gL s g := by simp only [gI, gL, gA, gB, sI, sL, sA, sB, upd]
theorem gA_sI (s : S) (f g : Nat) (v : Int32) : gA (sI s f v) g = gA s g := by simp only [gI, gL, gA, gB, sI, sL, sA, sB, upd]
theorem gA_sL (s : S) (f g : Nat) (v : Int64) : gA (sL s f v) g = gA s g := by simp only [gI, gL, gA, gB, sI, sL, sA, sB, upd]
theorem gA_sA (s : S) (f g : Nat) (v : List Int32) : gA (sA s f v) g = if g = f then v else gA s g := by simp only [gI, gL, gA, gB, sI, sL, sA, sB, upd]
theorem gA_sB (s : S) (f g : Nat) (v : List Int64) : gA (sB s f v) g = gA s g := by simp only [gI, gL, gA, gB, sI, sL, sA, sB, upd]
theorem gB_sI (s : S) (f g : Nat) (v : Int32) : gB (sI s f v) g = gB s g := by simp only [gI, gL, gA, gB, sI, sL, sA, sB, upd]
theorem gB_sL (s : S) (f g : Nat) (v : Int64) : gB (sL s f v) g = gB s g := by simp only [gI, gL, gA, gB, sI, sL, sA, sB, upd]
theorem gB_sA (s : S) (f g : Nat) (v : List Int32) : gB (sA s f v) g = gB s g := by simp only [gI, gL, gA, gB, sI, sL, sA, sB, upd]
theorem gB_sB (s : S) (f g : Nat) (v : List Int64) : gB (sB s f v) g = if g = f then v else gB s g := by simp only [gI, gL, gA, gB, sI, sL, sA, sB, upd]
def rep {A : Type} (n : Nat) (x : A) : List A := List.replicate n x
theorem rep_length {A : Type} (n : Nat) (x : A) : (rep n x).length = n := by simp only [rep, List.length_replicate]
theorem rep_get {A : Type} (n : Nat) (x : A) (k : Nat) : (rep n x)[k]? = if k < n then some x else none := by simp only [rep, List.getElem?_replicate]
theorem rep_set {A : Type} (n : Nat) (x : A) (k : Nat) : (rep n x).set k x = rep n x := by simp only [rep, List.set_replicate_self]
/-- reading and writing a component -/
def ix {A : Type} (l : List A) (j : Int32) : Option A := if j < 0 then none else l[j.toNatClampNeg]?
def st {A : Type} (l : List A) (j : Int32) (x : A) : Option (List A) := if j < 0 then none else if j.toNatClampNeg < l.length then some (l.set j.toNatClampNeg x) else none
/-- the world of a run: the script array, if there is one; the objects made so far, each with the number of arrays that it has been given -/
abbrev W : Type := Option (List Int32) × List (Nat × S)
/-- the class: name, slots, scalar fields (name, descriptor, type), array fields in the order of their making (name, descriptor, component type, most slots) -/
abbrev CI : Type := String × Nat × List (String × String × FieldType) × List (String × String × FieldType × Nat)
def cN (c : CI) : String := c.1
def cF (c : CI) : Nat := c.2.1
def cS (c : CI) : List (String × String × FieldType) := c.2.2.1
def cA (c : CI) : List (String × String × FieldType × Nat) := c.2.2.2
def cK (c : CI) : Nat := (cA c).length
/-- the program: the sheet's words, the class -/
abbrev PI : Type := List Jvm.Cond × CI
/-- a method: name, bytes, variables, return type, room, most objects, whether it makes cells, cells and slots at its start -/
abbrev Meth : Type := MethodName × ByteArray × Nat × Option FieldType × Room × Nat × Bool × Nat × Nat
def mY (M : Meth) : MethodName := M.1
def mB (M : Meth) : ByteArray := M.2.1
def mL (M : Meth) : Nat := M.2.2.1
def mT (M : Meth) : Option FieldType := M.2.2.2.1
def mR (M : Meth) : Room := M.2.2.2.2.1
def mN (M : Meth) : Nat := M.2.2.2.2.2.1
def mTop (M : Meth) : Bool := M.2.2.2.2.2.2.1
def mUC (M : Meth) : Nat := M.2.2.2.2.2.2.2.1
def mUS (M : Meth) : Nat := M.2.2.2.2.2.2.2.2
/-! ## 2. Abstract references: 0 the script; j + 1 the cell at b + j -/
def con (α b : Nat) : Value → Value
  | .ref 0 => .ref α
  | .ref (j + 1) => .ref (b + j)
  | v => v
def cs (α b : Nat) : Slot → Slot
  | .val v => .val (con α b v)
  | .unset => .unset
  | .second => .second
def cL (α b : Nat) (L : List Slot) : Array Slot := (L.map (cs α b)).toArray
def cV (α b : Nat) (l : List Value) : List Value := l.map (con α b)
theorem con_cat (α b : Nat) (v : Value) : (con α b v).category = v.category := by
  cases v <;> try rfl
  rename_i a; cases a <;> rfl
theorem con_ref (α b : Nat) (v : Value) : (con α b v).isRef = v.isRef := by
  cases v <;> try rfl
  rename_i a; cases a <;> rfl
theorem cL_get {α b : Nat} {L : List Slot} {k : Nat} {x : Slot} (h : L[k]? = some x) : (cL α b L)[k]? = some (cs α b x) := by
  simp [cL, List.getElem?_toArray, List.getElem?_map, h]
theorem cL_size (α b : Nat) (L : List Slot) : (cL α b L).size = L.length := by simp [cL]
theorem cV_sum (α b : Nat) (l : List Value) : ((cV α b l).map fun v => v.category).sum = (l.map fun v => v.category).sum := by
  simp [cV, List.map_map, Function.comp_def, con_cat]
theorem setAt_map {α b : Nat} {l l' : Array Slot} {i : Nat} {x : Slot} (h : setAt l i x = some l') : setAt (l.map (cs α b)) i (cs α b x) = some (l'.map (cs α b)) := by
  unfold setAt at h ⊢
  split at h
  · rename_i q
    cases h
    rw [if_pos (by simpa using q)]
    simp [Array.map_setIfInBounds]
  · cases h
theorem storeSelf_map {α b : Nat} {l l' : Array Slot} {i : Nat} {v : Value} (h : storeSelf l i v = some l') : storeSelf (l.map (cs α b)) i (con α b v) = some (l'.map (cs α b)) := by
  simp only [storeSelf, Option.bind_eq_bind, Option.bind_eq_some_iff] at h ⊢
  obtain ⟨l1, h1, h2⟩ := h
  refine ⟨l1.map (cs α b), setAt_map (x := .val v) h1, ?_⟩
  rw [con_cat]
  split at h2
  · rename_i q
    rw [if_pos q]
    obtain ⟨x, h3, h4⟩ := Option.bind_eq_some_iff.mp h2
    refine Option.bind_eq_some_iff.mpr ⟨cs α b x, by simp [h3], ?_⟩
    cases x with
    | unset => exact setAt_map (x := .second) h4
    | second => exact setAt_map (x := .second) h4
    | val old =>
      simp only [cs, con_cat] at h4 ⊢
      split at h4
      · rename_i q2
        rw [if_pos q2]
        obtain ⟨y, h5, h6⟩ := Option.bind_eq_some_iff.mp h4
        exact Option.bind_eq_some_iff.mpr ⟨_, setAt_map (x := .unset) h5, setAt_map (x := .second) h6⟩
      · rename_i q2
        rw [if_neg q2]
        exact setAt_map (x := .second) h4
  · rename_i q
    rw [if_neg q]
    cases h2; rfl
theorem store_map {α b : Nat} {l l' : Array Slot} {i : Nat} {v : Value} (h : storeLocals l i v = some l') : storeLocals (l.map (cs α b)) i (con α b v) = some (l'.map (cs α b)) := by
  simp only [storeLocals, Option.bind_eq_bind, Option.bind_eq_some_iff] at h ⊢
  obtain ⟨x, h1, h2⟩ := h
  refine ⟨cs α b x, by simp [h1], ?_⟩
  cases x with
  | unset => exact storeSelf_map h2
  | second =>
    obtain ⟨y, h3, h4⟩ := Option.bind_eq_some_iff.mp h2
    exact Option.bind_eq_some_iff.mpr ⟨_, setAt_map (x := .unset) h3, storeSelf_map h4⟩
  | val old =>
    simp only [cs, con_cat] at h2 ⊢
    split at h2
    · rename_i q
      rw [if_pos q]
      obtain ⟨y, h3, h4⟩ := Option.bind_eq_some_iff.mp h2
      exact Option.bind_eq_some_iff.mpr ⟨_, setAt_map (x := .unset) h3, storeSelf_map h4⟩
    · rename_i q
      rw [if_neg q]
      exact storeSelf_map h2
theorem storeC {α b : Nat} {L L' : List Slot} {i : Nat} {v : Value} (h : storeLocals L.toArray i v = some L'.toArray) : storeLocals (cL α b L) i (con α b v) = some (cL α b L') := by
  have := store_map (α := α) (b := b) h
  simpa [cL] using this
theorem setAt_size {l l' : Array Slot} {i : Nat} {x : Slot} (h : setAt l i x = some l') : l'.size = l.size := by
  unfold setAt at h; split at h <;> cases h; simp
theorem storeSelf_size {l l' : Array Slot} {i : Nat} {v : Value} (h : storeSelf l i v = some l') : l'.size = l.size := by
  simp only [storeSelf, Option.bind_eq_bind, Option.bind_eq_some_iff] at h
  obtain ⟨l1, h1, h2⟩ := h
  have e1 := setAt_size h1
  split at h2
  · obtain ⟨x, h3, h4⟩ := Option.bind_eq_some_iff.mp h2
    cases x with
    | unset => exact (setAt_size h4).trans e1
    | second => exact (setAt_size h4).trans e1
    | val old =>
      dsimp only at h4
      split at h4
      · obtain ⟨y, h5, h6⟩ := Option.bind_eq_some_iff.mp h4
        exact (setAt_size h6).trans ((setAt_size h5).trans e1)
      · exact (setAt_size h4).trans e1
  · cases h2; exact e1
theorem store_size {l l' : Array Slot} {i : Nat} {v : Value} (h : storeLocals l i v = some l') : l'.size = l.size := by
  simp only [storeLocals, Option.bind_eq_bind, Option.bind_eq_some_iff] at h
  obtain ⟨x, h1, h2⟩ := h
  cases x with
  | unset => exact storeSelf_size h2
  | second =>
    obtain ⟨y, h3, h4⟩ := Option.bind_eq_some_iff.mp h2
    exact (storeSelf_size h4).trans (setAt_size h3)
  | val old =>
    dsimp only at h2
    split at h2
    · obtain ⟨y, h3, h4⟩ := Option.bind_eq_some_iff.mp h2
      exact (storeSelf_size h4).trans (setAt_size h3)
    · exact storeSelf_size h2
/-- a variable that may be written over by a value of one word -/
def k1 (o : Slot) : Prop := o = .unset ∨ ∃ w, o = .val w ∧ w.category = 1
def k2 (o o2 : Slot) : Prop := (o = .unset ∧ o2 = .unset) ∨ ∃ u, o = .val (.long u) ∧ o2 = .second
theorem setAt_l {L : List Slot} {k : Nat} {x : Slot} (h : k < L.length) : setAt L.toArray k x = some (L.set k x).toArray := by simp [setAt, h]
theorem get_l {L : List Slot} {k : Nat} {o : Slot} (h : L[k]? = some o) : L.toArray[k]? = some o := by rw [List.getElem?_toArray]; exact h
theorem store_u {L : List Slot} {k : Nat} {v : Value} (h : L[k]? = some .unset) : storeLocals L.toArray k v = storeSelf L.toArray k v := by
  simp only [storeLocals, Option.bind_eq_bind, get_l h, Option.bind_some]
theorem store_1 {L : List Slot} {k : Nat} {v w : Value} (h : L[k]? = some (.val w)) (hw : w.category = 1) : storeLocals L.toArray k v = storeSelf L.toArray k v := by
  simp only [storeLocals, Option.bind_eq_bind, get_l h, Option.bind_some]
  rw [if_neg (by rw [hw]; decide)]
theorem store_k {L : List Slot} {k : Nat} {v : Value} {o : Slot} (h : L[k]? = some o) (ho : k1 o) : storeLocals L.toArray k v = storeSelf L.toArray k v := by
  rcases ho with rfl | ⟨w, rfl, hw⟩
  · exact store_u h
  · exact store_1 h hw
theorem store_2 {L : List Slot} {k : Nat} {v w : Value} (h : L[k]? = some (.val w)) (hw : w.category = 2) (l2 : k + 1 < L.length) : storeLocals L.toArray k v = storeSelf (L.set (k + 1) .unset).toArray k v := by
  simp only [storeLocals, Option.bind_eq_bind, get_l h, Option.bind_some]
  rw [if_pos hw, setAt_l l2, Option.bind_some]
theorem self_1 {L : List Slot} {k : Nat} {v : Value} (hv : v.category = 1) (l : k < L.length) : storeSelf L.toArray k v = some (L.set k (.val v)).toArray := by
  simp only [storeSelf, Option.bind_eq_bind, setAt_l l, Option.bind_some]
  rw [if_neg (by rw [hv]; decide)]
theorem self_2 {L : List Slot} {k : Nat} {v : Value} {o : Slot} (hv : v.category = 2) (h : L[k + 1]? = some o) (ho : k1 o ∨ o = .second) (l : k < L.length) : storeSelf L.toArray k v = some ((L.set k (.val v)).set (k + 1) .second).toArray := by
  have l2 := (List.getElem?_eq_some_iff.mp h).1
  have e2 : (L.set k (.val v))[k + 1]? = some o := by rw [List.getElem?_set_ne (by omega)]; exact h
  simp only [storeSelf, Option.bind_eq_bind, setAt_l l, Option.bind_some]
  rw [if_pos hv, get_l e2, Option.bind_some]
  rcases ho with (rfl | ⟨w, rfl, hw⟩) | rfl
  · exact setAt_l (by rw [List.length_set]; exact l2)
  · dsimp only
    rw [if_neg (by rw [hw]; decide)]
    exact setAt_l (by rw [List.length_set]; exact l2)
  · exact setAt_l (by rw [List.length_set]; exact l2)
theorem self_3 {L : List Slot} {k : Nat} {v w : Value} (hv : v.category = 2) (h : L[k + 1]? = some (.val w)) (hw : w.category = 2) (l3 : k + 2 < L.length) (l : k < L.length) : storeSelf L.toArray k v = some (((L.set k (.val v)).set (k + 2) .unset).set (k + 1) .second).toArray := by
  have l2 := (List.getElem?_eq_some_iff.mp h).1
  have e2 : (L.set k (.val v))[k + 1]? = some (.val w) := by rw [List.getElem?_set_ne (by omega)]; exact h
  simp only [storeSelf, Option.bind_eq_bind, setAt_l l, Option.bind_some]
  rw [if_pos hv, get_l e2, Option.bind_some]
  dsimp only
  rw [if_pos hw, setAt_l (by rw [List.length_set]; exact l3), Option.bind_some, setAt_l (by rw [List.length_set, List.length_set]; exact l2)]
theorem stx {L : List Slot} {k : Nat} {o : Slot} {v : Value} (h : L[k]? = some o) (ho : k1 o) (hv : v.category = 1) : storeLocals L.toArray k v = some (L.set k (.val v)).toArray := by
  rw [store_k h ho, self_1 hv (List.getElem?_eq_some_iff.mp h).1]
theorem stx3 {L : List Slot} {k : Nat} {o o2 : Slot} {u : Int64} (h : L[k]? = some o) (h2 : L[k + 1]? = some o2) (ho : k1 o) (ho2 : k1 o2) : storeLocals L.toArray k (.long u) = some ((L.set k (.val (.long u))).set (k + 1) .second).toArray := by
  rw [store_k h ho, self_2 rfl h2 (Or.inl ho2) (List.getElem?_eq_some_iff.mp h).1]
theorem stx2 {L : List Slot} {k : Nat} {o o2 : Slot} {u : Int64} (h : L[k]? = some o) (h2 : L[k + 1]? = some o2) (ho : k2 o o2) : storeLocals L.toArray k (.long u) = some ((L.set k (.val (.long u))).set (k + 1) .second).toArray := by
  have l1 := (List.getElem?_eq_some_iff.mp h).1
  have l2 := (List.getElem?_eq_some_iff.mp h2).1
  rcases ho with ⟨rfl, rfl⟩ | ⟨u', rfl, rfl⟩
  · exact stx3 h h2 (Or.inl rfl) (Or.inl rfl)
  · rw [store_2 h rfl l2, self_2 (o := .unset) rfl (by rw [List.getElem?_set_self l2]) (Or.inl (Or.inl rfl)) (by rw [List.length_set]; exact l1)]
    rw [List.set_comm _ _ (show k + 1 ≠ k by omega), List.set_set]
theorem stx4 {L : List Slot} {k : Nat} {o2 : Slot} {w : Int64} {v : Value} (h : L[k]? = some (.val (.long w))) (h2 : L[k + 1]? = some o2) (hv : v.category = 1) : storeLocals L.toArray k v = some ((L.set (k + 1) .unset).set k (.val v)).toArray := by
  rw [store_2 h rfl (List.getElem?_eq_some_iff.mp h2).1, self_1 hv (by rw [List.length_set]; exact (List.getElem?_eq_some_iff.mp h).1)]
theorem stx5 {L : List Slot} {k : Nat} {o o3 : Slot} {w u : Int64} (h : L[k]? = some o) (ho : k1 o) (h2 : L[k + 1]? = some (.val (.long w))) (h3 : L[k + 2]? = some o3) : storeLocals L.toArray k (.long u) = some (((L.set k (.val (.long u))).set (k + 2) .unset).set (k + 1) .second).toArray := by
  rw [store_k h ho, self_3 rfl h2 rfl (List.getElem?_eq_some_iff.mp h3).1 (List.getElem?_eq_some_iff.mp h).1]
/-- a tail of dead variables -/
def wtf : Slot ⊕ Int64 → List Slot
  | .inl x => [x]
  | .inr u => [.val (.long u), .second]
def WT (D : List Slot) : Prop := ∃ l : List (Slot ⊕ Int64), D = l.flatMap wtf ∧ ∀ x, Sum.inl x ∈ l → k1 x
theorem wt0 : WT [] := ⟨[], rfl, fun _ h => nomatch h⟩
theorem wt1 {x : Slot} {D : List Slot} (h : k1 x) (W : WT D) : WT (x :: D) := by
  obtain ⟨l, rfl, g⟩ := W
  refine ⟨.inl x :: l, by simp [wtf], fun y hy => ?_⟩
  rcases List.mem_cons.mp hy with e | e
  · cases e; exact h
  · exact g y e
theorem wt2 {u : Int64} {D : List Slot} (W : WT D) : WT (.val (.long u) :: .second :: D) := by
  obtain ⟨l, rfl, g⟩ := W
  refine ⟨.inr u :: l, by simp [wtf], fun y hy => ?_⟩
  rcases List.mem_cons.mp hy with e | e
  · cases e
  · exact g y e
theorem wt12 {x y : Slot} {D : List Slot} (h : k2 x y) (W : WT D) : WT (x :: y :: D) := by
  rcases h with ⟨rfl, rfl⟩ | ⟨u, rfl, rfl⟩
  · exact wt1 (Or.inl rfl) (wt1 (Or.inl rfl) W)
  · exact wt2 W
theorem wt_cases {D : List Slot} (W : WT D) : D = [] ∨ (∃ x E, D = x :: E ∧ k1 x ∧ WT E) ∨ ∃ u E, D = .val (.long u) :: .second :: E ∧ WT E := by
  obtain ⟨l, rfl, g⟩ := W
  match l, g with
  | [], _ => exact Or.inl rfl
  | .inl x :: r, g => exact Or.inr (Or.inl ⟨x, r.flatMap wtf, by simp [wtf], g x (List.mem_cons_self ..), r, rfl, fun y hy => g y (List.mem_cons_of_mem _ hy)⟩)
  | .inr u :: r, g => exact Or.inr (Or.inr ⟨u, r.flatMap wtf, by simp [wtf], r, rfl, fun y hy => g y (List.mem_cons_of_mem _ hy)⟩)
theorem stT {L0 D : List Slot} {v : Value} {n : Nat} (W : WT D) (hl : D.length = n + 1) (hv : v.category = 1) : ∃ D', WT D' ∧ D'.length = n ∧ storeLocals (L0 ++ D).toArray L0.length v = some (L0 ++ ([.val v] : List Slot) ++ D').toArray := by
  rcases wt_cases W with rfl | ⟨x, E, rfl, hx, WE⟩ | ⟨u, E, rfl, WE⟩
  · simp at hl
  · refine ⟨E, WE, by simpa using hl, ?_⟩
    rw [stx (o := x) (by simp) hx hv]; simp
  · refine ⟨.unset :: E, wt1 (Or.inl rfl) WE, by simpa using hl, ?_⟩
    rw [stx4 (w := u) (o2 := .second) (by simp) (by rw [List.getElem?_append_right (by omega)]; simp) hv]
    simp [List.set_append]
theorem stT2 {L0 D : List Slot} {u : Int64} {n : Nat} (W : WT D) (hl : D.length = n + 2) : ∃ D', WT D' ∧ D'.length = n ∧ storeLocals (L0 ++ D).toArray L0.length (.long u) = some (L0 ++ ([.val (.long u), .second] : List Slot) ++ D').toArray := by
  rcases wt_cases W with rfl | ⟨x, E, rfl, hx, WE⟩ | ⟨w, E, rfl, WE⟩
  · simp at hl
  · rcases wt_cases WE with rfl | ⟨y, F, rfl, hy, WF⟩ | ⟨w, F, rfl, WF⟩
    · simp at hl
    · refine ⟨F, WF, by simpa using hl, ?_⟩
      rw [stx3 (o := x) (o2 := y) (by simp) (by rw [List.getElem?_append_right (by omega)]; simp) hx hy]
      simp [List.set_append]
    · refine ⟨.unset :: F, wt1 (Or.inl rfl) WF, by simpa using hl, ?_⟩
      rw [stx5 (o := x) (w := w) (o3 := .second) (by simp) hx (by rw [List.getElem?_append_right (by omega)]; simp) (by rw [List.getElem?_append_right (by omega)]; simp)]
      simp [List.set_append]
  · refine ⟨E, WE, by simpa using hl, ?_⟩
    rw [stx2 (o := .val (.long w)) (o2 := .second) (by simp) (by rw [List.getElem?_append_right (by omega)]; simp) (Or.inr ⟨w, rfl, rfl⟩)]
    simp [List.set_append]
/-- the variables at a method's entry -/
def argL : List Value → List Slot
  | [] => []
  | v :: r => if v.category = 2 then .val v :: .second :: argL r else .val v :: argL r
def entryL (as : List Value) (n : Nat) : List Slot := argL as ++ List.replicate (n - (argL as).length) .unset
theorem argL_fold : ∀ (as : List Value) (acc : List Slot), as.foldl (fun acc v => if v.category = 2 then (acc.push (.val v)).push .second else acc.push (.val v)) acc.toArray = (acc ++ argL as).toArray
  | [], acc => by simp [argL]
  | v :: r, acc => by
    simp only [List.foldl_cons, argL]
    split
    · rename_i q
      rw [show ((acc.toArray.push (Slot.val v)).push Slot.second) = (acc ++ [Slot.val v, Slot.second]).toArray by simp, argL_fold r]
      simp
    · rename_i q
      rw [show (acc.toArray.push (Slot.val v)) = (acc ++ [Slot.val v]).toArray by simp, argL_fold r]
      simp
theorem argL_map (α b : Nat) : ∀ as : List Value, argL (cV α b as) = (argL as).map (cs α b)
  | [] => rfl
  | v :: r => by
    have ih := argL_map α b r
    simp only [cV, List.map_cons, argL, con_cat] at ih ⊢
    split <;> simp [ih, cs]
theorem entry_locals (α b : Nat) (as : List Value) (n : Nat) : argsToLocals (cV α b as).toArray n = cL α b (entryL as n) := by
  have h := argL_fold (cV α b as) []
  simp only [List.nil_append] at h
  have h' : (cV α b as).toArray.foldl (fun acc v => if v.category = 2 then (acc.push (Slot.val v)).push Slot.second else acc.push (Slot.val v)) #[] = (argL (cV α b as)).toArray := by
    rw [← h]; simp
  simp only [argsToLocals]
  rw [h', argL_map]
  simp [cL, entryL, List.map_append, cs]
/-! ## 3. What the heap shows -/
def scV (ty : FieldType) (s : S) (f : Nat) : Value := match ty with
  | .long => .long (gL s f)
  | _ => .int (gI s f)
def arV (ty : FieldType) (s : S) (q : Nat) : List Value := match ty with
  | .long => (gB s q).map .long
  | _ => (gA s q).map .int
def Ar (Z : State) (h : Heap) (a : Nat) (ty : FieldType) (vs : List Value) : Prop := ∃ c : Cell, Arr Z h a c ty ∧ c.slots = vs.toArray
def Rep1 (Z : State) (ci : CI) (h : Heap) (b : Nat) (o : Nat × S) : Prop :=
  Exa Z h b (cN ci) ∧ (∀ f x, (cS ci)[f]? = some x → Fld Z h b (cN ci) x.1 x.2.1 (scV x.2.2 o.2 f)) ∧
  (∀ q x, (cA ci)[q]? = some x → Fld Z h b (cN ci) x.1 x.2.1 (if q < o.1 then .ref (b + 1 + q) else .null)) ∧
  (∀ q x, (cA ci)[q]? = some x → q < o.1 → Ar Z h (b + 1 + q) x.2.2.1 (arV x.2.2.1 o.2 q))
def RepW (Z : State) (ci : CI) (α b : Nat) (w : W) (h : Heap) : Prop :=
  (∀ l, w.1 = some l → Ar Z h α .int (l.map .int) ∧ α < b) ∧ ∀ i o, w.2[i]? = some o → Rep1 Z ci h (b + (cK ci + 1) * i) o
def Frm (lo hi : Nat) (h0 h : Heap) : Prop := ∀ (x : Nat) (c : Cell), h0[x]? = some c → (x < lo ∨ hi ≤ x) → h[x]? = some c
def usedC (w : W) : Nat := (w.2.map fun o => 1 + o.1).sum
def usedS (ci : CI) (w : W) : Nat := (w.2.map fun o => cF ci + (((cA ci).take o.1).map fun x => x.2.2.2).sum).sum
/-- what the sheet says of the class -/
def Facts (Z : State) (a0 : Array Value) (ci : CI) : Prop :=
  (Jvm.Cond.instantiable (cN ci) (cF ci)).before a0 Z = true ∧ (Jvm.Cond.initialized (cN ci)).before a0 Z = true ∧
  (∀ (f : Nat) (x : String × String × FieldType), (cS ci)[f]? = some x → Laid Z a0 (cN ci) (cN ci) x.1 x.2.1 ∧ parseFieldDescriptor x.2.1 = some x.2.2) ∧
  (∀ (q : Nat) (x : String × String × FieldType × Nat), (cA ci)[q]? = some x → Laid Z a0 (cN ci) (cN ci) x.1 x.2.1 ∧ parseFieldDescriptor x.2.1 = some (.array x.2.2.1)) ∧
  ((cS ci).map (fun x => x.1) ++ (cA ci).map (fun x => x.1)).Nodup ∧ (∀ f x, (cS ci)[f]? = some x → defaultValue x.2.2 = scV x.2.2 s0 f) ∧ (cN ci ≠ "java/lang/invoke/MethodHandle" ∧ cN ci ≠ "java/lang/invoke/VarHandle")
theorem nq {a b : Nat} (h : a ≠ b) : @Ne Addr a b := h
theorem Ar.frm {Z : State} {h h' : Heap} {a : Nat} {ty : FieldType} {vs : List Value} (A : Ar Z h a ty vs) (k : ∀ c, h[a]? = some c → h'[a]? = some c) : Ar Z h' a ty vs := by
  obtain ⟨c, ⟨q1, q2⟩, q3⟩ := A; exact ⟨c, ⟨k c q1, q2⟩, q3⟩
theorem fld_frm {Z : State} {h h' : Heap} {a : Nat} {C n d : String} {v : Value} (F : Fld Z h a C n d v) (k : ∀ c, h[a]? = some c → h'[a]? = some c) : Fld Z h' a C n d v := by
  obtain ⟨cell, cf, kc, i, f, h1, r⟩ := F; exact ⟨cell, cf, kc, i, f, k _ h1, r⟩
theorem exa_frm {Z : State} {h h' : Heap} {a : Nat} {C : String} (F : Exa Z h a C) (k : ∀ c, h[a]? = some c → h'[a]? = some c) : Exa Z h' a C := by
  obtain ⟨cell, kc, h1, r⟩ := F; exact ⟨cell, kc, k _ h1, r⟩
theorem get_lt {A : Type} {l : List A} {i : Nat} {x : A} (h : l[i]? = some x) : i < l.length := (List.getElem?_eq_some_iff.mp h).1
theorem Rep1.frm {Z : State} {ci : CI} {h h' : Heap} {b : Nat} {o : Nat × S} (F : Rep1 Z ci h b o) (k : ∀ x c, b ≤ x → x < b + (cK ci + 1) → h[x]? = some c → h'[x]? = some c) : Rep1 Z ci h' b o := by
  obtain ⟨f1, f2, f3, f4⟩ := F
  refine ⟨exa_frm f1 fun c => k b c (Nat.le_refl _) (by omega), fun f x hx => fld_frm (f2 f x hx) fun c => k b c (Nat.le_refl _) (by omega), fun q x hx => fld_frm (f3 q x hx) fun c => k b c (Nat.le_refl _) (by omega), fun q x hx hq => (f4 q x hx hq).frm fun c => k _ c (by omega) ?_⟩
  have := get_lt hx
  simp only [cK]; omega
theorem RepW.ext {Z : State} {ci : CI} {α b : Nat} {w : W} {h h' : Heap} (F : RepW Z ci α b w h) (E : Ext h h') : RepW Z ci α b w h' :=
  ⟨fun l hl => ⟨((F.1 l hl).1).frm fun c q => E.2 _ _ q, (F.1 l hl).2⟩, fun i o ho => (F.2 i o ho).frm fun x c _ _ q => E.2 _ _ q⟩
theorem Frm.refl (lo hi : Nat) (h : Heap) : Frm lo hi h h := fun _ _ q _ => q
theorem Frm.trans {lo hi : Nat} {h0 h1 h2 : Heap} (A : Frm lo hi h0 h1) (B : Frm lo hi h1 h2) : Frm lo hi h0 h2 := fun x c q r => B x c (A x c q r) r
theorem Frm.wide {lo hi lo' hi' : Nat} {h0 h1 : Heap} (A : Frm lo hi h0 h1) (q1 : lo' ≤ lo) (q2 : hi ≤ hi') : Frm lo' hi' h0 h1 := fun x c q r => A x c q (by omega)
theorem Frm.ext {lo hi : Nat} {h0 h1 h2 : Heap} (A : Frm lo hi h0 h1) (E : Ext h1 h2) : Frm lo hi h0 h2 := fun x c q r => E.2 _ _ (A x c q r)
theorem Frm.wr {lo hi : Nat} {h0 h1 h2 : Heap} {a : Nat} {sl : Nat} {v : Value} (A : Frm lo hi h0 h1) (Wt : Wr h1 h2 a sl v) (q1 : lo ≤ a) (q2 : a < hi) : Frm lo hi h0 h2 := fun x c q r => by
  have q3 := A x c q r
  obtain ⟨c', e1, -, -, -, e5, -⟩ := wr_at Wt q3
  have : x ≠ a := by omega
  rw [← e5 this]; exact e1
/-! ## 4. The walk -/
def Ok (P : PI) (M : Meth) (Z : State) (a0 : Array Value) (p : Program) (R : Room) (s : State) (m : MethodId) (meth : Method) (c : Code) (b n0 : Nat) (h0 : Heap) (uC uS : Nat) : Prop :=
  (∀ d ∈ P.1, d.before a0 Z = true) ∧ Facts Z a0 P.2 ∧ p.tables.exec = Jvm.exec ∧ Z.Warmed39 s.vm ∧ s.vm.findClass (mY M).cls = some m.cls ∧ c.code = mB M ∧ c.maxLocals = mL M ∧ meth.sig.returnType = mT M ∧ meth.name = (mY M).name ∧ R = mR M ∧ n0 ≤ b ∧
  (mTop M = true → h0.size = b + uC ∧ uC = mUC M ∧ uS = mUS M) ∧ s.heap.size = h0.size
def Inv (P : PI) (M : Meth) (l : Launch) (Z : State) (p : Program) (e : Env) (R : Room) (s : State) (m : MethodId) (args : Array Value) (below : List Frame) (meth : Method) (c : Code) (α b n0 : Nat) (h0 : Heap) (uC uS : Nat) (w : W) (T : State) (locs : List Loc) (cells slots : Nat) : Prop :=
  Stand p l e R s m args below meth c T locs cells slots ∧ RepW Z P.2 α b w T.heap ∧ Frm b (b + (cK P.2 + 1) * mN M) h0 T.heap ∧ Fr n0 locs ∧ T.heap.size = h0.size + cells ∧ cells + uC = usedC w ∧ slots + uS = usedS P.2 w ∧ cells ≤ R.cells ∧ slots ≤ R.slots ∧ w.2.length ≤ mN M
def Lv (e : Env) (T : State) (m : MethodId) (r : Option Value) (fs : List Frame) : Prop := ∀ (f : JFrame) (acts : List Action), f.method = m → f.locked = none → f.entered = [] → (doReturn e (T.setTop f) acts r).1 = T.setFrames fs
/-- from here the invocation comes to its end, with this value and this world -/
def Go (P : PI) (M : Meth) (pc : Nat) (L : List Slot) (st : List Value) (w : W) (out : Option Value × W) : Prop :=
  L.length = mL M → ∀ (l : Launch) (Z : State) (a0 : Array Value) (p : Program) (e : Env) (R : Room) (s : State) (m : MethodId) (args : Array Value) (below : List Frame) (meth : Method) (c : Code) (α b n0 : Nat) (h0 : Heap) (uC uS : Nat),
    Ok P M Z a0 p R s m meth c b n0 h0 uC uS → ∀ (T : State) (locs : List Loc) (cells slots : Nat), Inv P M l Z p e R s m args below meth c α b n0 h0 uC uS w T locs cells slots →
    ∃ (T' : State) (locs' : List Loc) (cells' slots' : Nat), Inv P M l Z p e R s m args below meth c α b n0 h0 uC uS out.2 T' locs' cells' slots' ∧
      ∀ fs, Lv e T' m (out.1.map (con α b)) fs → Steps p.tables e below (T.setTop (mkF m pc (cL α b L) (cV α b st))) (T'.setFrames fs)
section Rules
variable {P : PI} {M : Meth} {pc pc' : Nat} {L L' : List Slot} {st st' : List Value} {w w' : W} {out : Option Value × W} {x y z v : Int32} {u r : Int64}
theorem go_mv (hL : L.length = mL M → L'.length = mL M)
    (H : ∀ {p : Program} {e : Env} {below : List Frame} {T target : State} {m : MethodId} {c : Code}, At T m c below → p.tables.exec = Jvm.exec → c.code = mB M → ∀ α b : Nat, Steps p.tables e below (T.setTop (mkF m pc' (cL α b L') (cV α b st'))) target → Steps p.tables e below (T.setTop (mkF m pc (cL α b L) (cV α b st))) target)
    (k : Go P M pc' L' st' w out) : Go P M pc L st w out := by
  intro hl l Z a0 p e R s m args below meth c α b n0 h0 uC uS ok T locs cells slots I
  obtain ⟨T', l', c', n', I', fin⟩ := k (hL hl) l Z a0 p e R s m args below meth c α b n0 h0 uC uS ok T locs cells slots I
  exact ⟨T', l', c', n', I', fun fs hv => H I.1.here ok.2.2.1 ok.2.2.2.2.2.1 α b (fin fs hv)⟩
theorem go_ch (H : ∀ (l : Launch) (Z : State) (a0 : Array Value) (p : Program) (e : Env) (R : Room) (s : State) (m : MethodId) (args : Array Value) (below : List Frame) (meth : Method) (c : Code) (α b n0 : Nat) (h0 : Heap) (uC uS : Nat),
      Ok P M Z a0 p R s m meth c b n0 h0 uC uS → L.length = mL M → ∀ (T : State) (locs : List Loc) (cells slots : Nat), Inv P M l Z p e R s m args below meth c α b n0 h0 uC uS w T locs cells slots →
      ∃ (T' : State) (locs' : List Loc) (cells' slots' : Nat), Inv P M l Z p e R s m args below meth c α b n0 h0 uC uS w' T' locs' cells' slots' ∧
        ∀ target, Steps p.tables e below (T'.setTop (mkF m pc' (cL α b L) (cV α b st'))) target → Steps p.tables e below (T.setTop (mkF m pc (cL α b L) (cV α b st))) target)
    (k : Go P M pc' L st' w' out) : Go P M pc L st w out := by
  intro hl l Z a0 p e R s m args below meth c α b n0 h0 uC uS ok T locs cells slots I
  obtain ⟨T1, l1, c1, n1, I1, h1⟩ := H l Z a0 p e R s m args below meth c α b n0 h0 uC uS ok hl T locs cells slots I
  obtain ⟨T', l', c', n', I', fin⟩ := k hl l Z a0 p e R s m args below meth c α b n0 h0 uC uS ok T1 l1 c1 n1 I1
  exact ⟨T', l', c', n', I', fun fs hv => h1 _ (fin fs hv)⟩
/-! ### loads, stores, constants -/
theorem go_iloadN {k : Fin 4} (d : decode (mB M) pc = .ok (.iload_n k, 1)) (hl : L[k.val]? = some (.val (.int v))) (g : Go P M (pc + 1) L (.int v :: st) w out) : Go P M pc L (st) w out :=
  go_mv id (fun h hx hc α b r => XS.iloadN (g := mkF _ pc (cL α b L) (cV α b (st))) h hx rfl (hb hc d) (cL_get hl) r) g
theorem go_iload {k : Nat} (d : decode (mB M) pc = .ok (.iload k, 2)) (hl : L[k]? = some (.val (.int v))) (g : Go P M (pc + 2) L (.int v :: st) w out) : Go P M pc L (st) w out :=
  go_mv id (fun h hx hc α b r => XS.iload (g := mkF _ pc (cL α b L) (cV α b (st))) h hx rfl (hb hc d) (cL_get hl) r) g
theorem go_lloadN {k : Fin 4} (d : decode (mB M) pc = .ok (.lload_n k, 1)) (hl : L[k.val]? = some (.val (.long u))) (g : Go P M (pc + 1) L (.long u :: st) w out) : Go P M pc L (st) w out :=
  go_mv id (fun h hx hc α b r => XT.lloadN (g := mkF _ pc (cL α b L) (cV α b (st))) h hx rfl (hb hc d) (cL_get hl) r) g
theorem go_lload {k : Nat} (d : decode (mB M) pc = .ok (.lload k, 2)) (hl : L[k]? = some (.val (.long u))) (g : Go P M (pc + 2) L (.long u :: st) w out) : Go P M pc L (st) w out :=
  go_mv id (fun h hx hc α b r => XT.lload (g := mkF _ pc (cL α b L) (cV α b (st))) h hx rfl (hb hc d) (cL_get hl) r) g
theorem go_aloadN {k : Fin 4} {a : Nat} (d : decode (mB M) pc = .ok (.aload_n k, 1)) (hl : L[k.val]? = some (.val (.ref a))) (g : Go P M (pc + 1) L (.ref a :: st) w out) : Go P M pc L (st) w out :=
  go_mv id (fun h hx hc α b r => XS.aloadN (g := mkF _ pc (cL α b L) (cV α b (st))) h hx rfl (hb hc d) (cL_get hl) (con_ref α b (.ref a)) r) g
theorem go_aload {k : Nat} {a : Nat} (d : decode (mB M) pc = .ok (.aload k, 2)) (hl : L[k]? = some (.val (.ref a))) (g : Go P M (pc + 2) L (.ref a :: st) w out) : Go P M pc L (st) w out :=
  go_mv id (fun h hx hc α b r => XS.aload (g := mkF _ pc (cL α b L) (cV α b (st))) h hx rfl (hb hc d) (cL_get hl) (con_ref α b (.ref a)) r) g
theorem go_istoreN {k : Fin 4} (d : decode (mB M) pc = .ok (.istore_n k, 1)) (hl : storeLocals L.toArray k.val (.int x) = some L'.toArray) (g : Go P M (pc + 1) L' (st) w out) : Go P M pc L (.int x :: st) w out :=
  go_mv (fun q => by have := store_size hl; simp at this; omega) (fun h hx hc α b r => XS.istoreN (g := mkF _ pc (cL α b L) (cV α b (.int x :: st))) h hx rfl (hb hc d) rfl (storeC hl) r) g
theorem go_istore {k : Nat} (d : decode (mB M) pc = .ok (.istore k, 2)) (hl : storeLocals L.toArray k (.int x) = some L'.toArray) (g : Go P M (pc + 2) L' (st) w out) : Go P M pc L (.int x :: st) w out :=
  go_mv (fun q => by have := store_size hl; simp at this; omega) (fun h hx hc α b r => XS.istore (g := mkF _ pc (cL α b L) (cV α b (.int x :: st))) h hx rfl (hb hc d) rfl (storeC hl) r) g
theorem go_lstoreN {k : Fin 4} (d : decode (mB M) pc = .ok (.lstore_n k, 1)) (hl : storeLocals L.toArray k.val (.long u) = some L'.toArray) (g : Go P M (pc + 1) L' (st) w out) : Go P M pc L (.long u :: st) w out :=
  go_mv (fun q => by have := store_size hl; simp at this; omega) (fun h hx hc α b r => XT.lstoreN (g := mkF _ pc (cL α b L) (cV α b (.long u :: st))) h hx rfl (hb hc d) rfl (storeC hl) r) g
theorem go_lstore {k : Nat} (d : decode (mB M) pc = .ok (.lstore k, 2)) (hl : storeLocals L.toArray k (.long u) = some L'.toArray) (g : Go P M (pc + 2) L' (st) w out) : Go P M pc L (.long u :: st) w out :=
  go_mv (fun q => by have := store_size hl; simp at this; omega) (fun h hx hc α b r => XT.lstore (g := mkF _ pc (cL α b L) (cV α b (.long u :: st))) h hx rfl (hb hc d) rfl (storeC hl) r) g
theorem go_astoreN {k : Fin 4} {a : Nat} (d : decode (mB M) pc = .ok (.astore_n k, 1)) (hl : storeLocals L.toArray k.val (.ref a) = some L'.toArray) (g : Go P M (pc + 1) L' (st) w out) : Go P M pc L (.ref a :: st) w out :=
  go_mv (fun q => by have := store_size hl; simp at this; omega) (fun h hx hc α b r => XS.astoreN (g := mkF _ pc (cL α b L) (cV α b (.ref a :: st))) h hx rfl (hb hc d) rfl (con_ref α b (.ref a)) (storeC hl) r) g
theorem go_astore {k : Nat} {a : Nat} (d : decode (mB M) pc = .ok (.astore k, 2)) (hl : storeLocals L.toArray k (.ref a) = some L'.toArray) (g : Go P M (pc + 2) L' (st) w out) : Go P M pc L (.ref a :: st) w out :=
  go_mv (fun q => by have := store_size hl; simp at this; omega) (fun h hx hc α b r => XS.astore (g := mkF _ pc (cL α b L) (cV α b (.ref a :: st))) h hx rfl (hb hc d) rfl (con_ref α b (.ref a)) (storeC hl) r) g
theorem go_istoreNT {k : Fin 4} {L0 L1 D : List Slot} {n : Nat} (d : decode (mB M) pc = .ok (.istore_n k, 1)) (hk : k.val = L0.length) (h1 : L1 = L0 ++ [.val (.int x)]) (W : WT D) (hl : D.length = n + 1) (g : ∀ D', WT D' → D'.length = n → Go P M (pc + 1) (L1 ++ D') st w out) : Go P M pc (L0 ++ D) (.int x :: st) w out := by
  obtain ⟨D', W', l', e⟩ := stT (L0 := L0) (v := .int x) W hl rfl
  subst h1
  exact go_istoreN d (by rw [hk]; exact e) (g D' W' l')
theorem go_istoreT {k : Nat} {L0 L1 D : List Slot} {n : Nat} (d : decode (mB M) pc = .ok (.istore k, 2)) (hk : k = L0.length) (h1 : L1 = L0 ++ [.val (.int x)]) (W : WT D) (hl : D.length = n + 1) (g : ∀ D', WT D' → D'.length = n → Go P M (pc + 2) (L1 ++ D') st w out) : Go P M pc (L0 ++ D) (.int x :: st) w out := by
  obtain ⟨D', W', l', e⟩ := stT (L0 := L0) (v := .int x) W hl rfl
  subst h1
  exact go_istore d (by rw [hk]; exact e) (g D' W' l')
theorem go_astoreNT {k : Fin 4} {L0 L1 D : List Slot} {n : Nat} {a : Nat} (d : decode (mB M) pc = .ok (.astore_n k, 1)) (hk : k.val = L0.length) (h1 : L1 = L0 ++ [.val (.ref a)]) (W : WT D) (hl : D.length = n + 1) (g : ∀ D', WT D' → D'.length = n → Go P M (pc + 1) (L1 ++ D') st w out) : Go P M pc (L0 ++ D) (.ref a :: st) w out := by
  obtain ⟨D', W', l', e⟩ := stT (L0 := L0) (v := .ref a) W hl rfl
  subst h1
  exact go_astoreN d (by rw [hk]; exact e) (g D' W' l')
theorem go_astoreT {k : Nat} {L0 L1 D : List Slot} {n : Nat} {a : Nat} (d : decode (mB M) pc = .ok (.astore k, 2)) (hk : k = L0.length) (h1 : L1 = L0 ++ [.val (.ref a)]) (W : WT D) (hl : D.length = n + 1) (g : ∀ D', WT D' → D'.length = n → Go P M (pc + 2) (L1 ++ D') st w out) : Go P M pc (L0 ++ D) (.ref a :: st) w out := by
  obtain ⟨D', W', l', e⟩ := stT (L0 := L0) (v := .ref a) W hl rfl
  subst h1
  exact go_astore d (by rw [hk]; exact e) (g D' W' l')
theorem go_lstoreNT {k : Fin 4} {L0 L1 D : List Slot} {n : Nat} (d : decode (mB M) pc = .ok (.lstore_n k, 1)) (hk : k.val = L0.length) (h1 : L1 = L0 ++ [.val (.long u), .second]) (W : WT D) (hl : D.length = n + 2) (g : ∀ D', WT D' → D'.length = n → Go P M (pc + 1) (L1 ++ D') st w out) : Go P M pc (L0 ++ D) (.long u :: st) w out := by
  obtain ⟨D', W', l', e⟩ := stT2 (L0 := L0) (u := u) W hl
  subst h1
  exact go_lstoreN d (by rw [hk]; exact e) (g D' W' l')
theorem go_lstoreT {k : Nat} {L0 L1 D : List Slot} {n : Nat} (d : decode (mB M) pc = .ok (.lstore k, 2)) (hk : k = L0.length) (h1 : L1 = L0 ++ [.val (.long u), .second]) (W : WT D) (hl : D.length = n + 2) (g : ∀ D', WT D' → D'.length = n → Go P M (pc + 2) (L1 ++ D') st w out) : Go P M pc (L0 ++ D) (.long u :: st) w out := by
  obtain ⟨D', W', l', e⟩ := stT2 (L0 := L0) (u := u) W hl
  subst h1
  exact go_lstore d (by rw [hk]; exact e) (g D' W' l')
theorem go_iconst {i : Int} (d : decode (mB M) pc = .ok (.iconst i, 1)) (hv : v = Int32.ofInt i) (g : Go P M (pc + 1) L (.int v :: st) w out) : Go P M pc L (st) w out :=
  go_mv id (fun h hx hc α b r => XS.iconst (g := mkF _ pc (cL α b L) (cV α b (st))) h hx rfl (hb hc d) (hv ▸ r)) g
theorem go_bipush {i : Int} (d : decode (mB M) pc = .ok (.bipush i, 2)) (hv : v = (Int8.ofInt i).toInt32) (g : Go P M (pc + 2) L (.int v :: st) w out) : Go P M pc L (st) w out :=
  go_mv id (fun h hx hc α b r => XS.bipush (g := mkF _ pc (cL α b L) (cV α b (st))) h hx rfl (hb hc d) (hv ▸ r)) g
theorem go_sipush {i : Int} (d : decode (mB M) pc = .ok (.sipush i, 3)) (hv : v = (Int16.ofInt i).toInt32) (g : Go P M (pc + 3) L (.int v :: st) w out) : Go P M pc L (st) w out :=
  go_mv id (fun h hx hc α b r => XS.sipush (g := mkF _ pc (cL α b L) (cV α b (st))) h hx rfl (hb hc d) (hv ▸ r)) g
theorem go_lconst {i : Fin 2} (d : decode (mB M) pc = .ok (.lconst i, 1)) (hv : u = Int64.ofNat i) (g : Go P M (pc + 1) L (.long u :: st) w out) : Go P M pc L (st) w out :=
  go_mv id (fun h hx hc α b r => XT.lconst (g := mkF _ pc (cL α b L) (cV α b (st))) h hx rfl (hb hc d) (hv ▸ r)) g
theorem go_dup  (d : decode (mB M) pc = .ok (.dup, 1))  (g : Go P M (pc + 1) L (.int x :: .int x :: st) w out) : Go P M pc L (.int x :: st) w out :=
  go_mv id (fun h hx hc α b r => XS.dup (g := mkF _ pc (cL α b L) (cV α b (.int x :: st))) h hx rfl (hb hc d) rfl rfl r) g
theorem go_dupR {a : Nat} (d : decode (mB M) pc = .ok (.dup, 1))  (g : Go P M (pc + 1) L (.ref a :: .ref a :: st) w out) : Go P M pc L (.ref a :: st) w out :=
  go_mv id (fun h hx hc α b r => XS.dup (g := mkF _ pc (cL α b L) (cV α b (.ref a :: st))) h hx rfl (hb hc d) rfl (con_cat α b (.ref a)) r) g
theorem go_dup2 {a : Nat} (d : decode (mB M) pc = .ok (.dup2, 1))  (g : Go P M (pc + 1) L (.int x :: .ref a :: .int x :: .ref a :: st) w out) : Go P M pc L (.int x :: .ref a :: st) w out :=
  go_mv id (fun h hx hc α b r => XT.dup2 (g := mkF _ pc (cL α b L) (cV α b (.int x :: .ref a :: st))) h hx rfl (hb hc d) rfl rfl (con_cat α b (.ref a)) r) g
theorem go_dup2I  (d : decode (mB M) pc = .ok (.dup2, 1))  (g : Go P M (pc + 1) L (.int x :: .int y :: .int x :: .int y :: st) w out) : Go P M pc L (.int x :: .int y :: st) w out :=
  go_mv id (fun h hx hc α b r => XT.dup2 (g := mkF _ pc (cL α b L) (cV α b (.int x :: .int y :: st))) h hx rfl (hb hc d) rfl rfl rfl r) g
theorem go_dup2L  (d : decode (mB M) pc = .ok (.dup2, 1))  (g : Go P M (pc + 1) L (.long u :: .long u :: st) w out) : Go P M pc L (.long u :: st) w out :=
  go_mv id (fun h hx hc α b r => XT.dup2L (g := mkF _ pc (cL α b L) (cV α b (.long u :: st))) h hx rfl (hb hc d) rfl r) g
theorem go_pop  (d : decode (mB M) pc = .ok (.pop, 1))  (g : Go P M (pc + 1) L (st) w out) : Go P M pc L (.int x :: st) w out :=
  go_mv id (fun h hx hc α b r => XT.pop (g := mkF _ pc (cL α b L) (cV α b (.int x :: st))) h hx rfl (hb hc d) rfl rfl r) g
theorem go_iadd  (d : decode (mB M) pc = .ok (.iadd, 1))  (g : Go P M (pc + 1) L (.int (x + y) :: st) w out) : Go P M pc L (.int y :: .int x :: st) w out :=
  go_mv id (fun h hx hc α b r => XS.iadd (g := mkF _ pc (cL α b L) (cV α b (.int y :: .int x :: st))) h hx rfl (hb hc d) rfl r) g
theorem go_isub  (d : decode (mB M) pc = .ok (.isub, 1))  (g : Go P M (pc + 1) L (.int (x - y) :: st) w out) : Go P M pc L (.int y :: .int x :: st) w out :=
  go_mv id (fun h hx hc α b r => XS.isub (g := mkF _ pc (cL α b L) (cV α b (.int y :: .int x :: st))) h hx rfl (hb hc d) rfl r) g
theorem go_imul  (d : decode (mB M) pc = .ok (.imul, 1))  (g : Go P M (pc + 1) L (.int (x * y) :: st) w out) : Go P M pc L (.int y :: .int x :: st) w out :=
  go_mv id (fun h hx hc α b r => XS.imul (g := mkF _ pc (cL α b L) (cV α b (.int y :: .int x :: st))) h hx rfl (hb hc d) rfl r) g
theorem go_iand  (d : decode (mB M) pc = .ok (.iand, 1))  (g : Go P M (pc + 1) L (.int (x &&& y) :: st) w out) : Go P M pc L (.int y :: .int x :: st) w out :=
  go_mv id (fun h hx hc α b r => XS.iand (g := mkF _ pc (cL α b L) (cV α b (.int y :: .int x :: st))) h hx rfl (hb hc d) rfl r) g
theorem go_ior  (d : decode (mB M) pc = .ok (.ior, 1))  (g : Go P M (pc + 1) L (.int (x ||| y) :: st) w out) : Go P M pc L (.int y :: .int x :: st) w out :=
  go_mv id (fun h hx hc α b r => XT.ior (g := mkF _ pc (cL α b L) (cV α b (.int y :: .int x :: st))) h hx rfl (hb hc d) rfl r) g
theorem go_ixor  (d : decode (mB M) pc = .ok (.ixor, 1))  (g : Go P M (pc + 1) L (.int (x ^^^ y) :: st) w out) : Go P M pc L (.int y :: .int x :: st) w out :=
  go_mv id (fun h hx hc α b r => XT.ixor (g := mkF _ pc (cL α b L) (cV α b (.int y :: .int x :: st))) h hx rfl (hb hc d) rfl r) g
theorem go_ishl  (d : decode (mB M) pc = .ok (.ishl, 1))  (g : Go P M (pc + 1) L (.int (x <<< (y &&& 31)) :: st) w out) : Go P M pc L (.int y :: .int x :: st) w out :=
  go_mv id (fun h hx hc α b r => XT.ishl (g := mkF _ pc (cL α b L) (cV α b (.int y :: .int x :: st))) h hx rfl (hb hc d) rfl r) g
theorem go_ishr  (d : decode (mB M) pc = .ok (.ishr, 1))  (g : Go P M (pc + 1) L (.int (x >>> (y &&& 31)) :: st) w out) : Go P M pc L (.int y :: .int x :: st) w out :=
  go_mv id (fun h hx hc α b r => XT.ishr (g := mkF _ pc (cL α b L) (cV α b (.int y :: .int x :: st))) h hx rfl (hb hc d) rfl r) g
theorem go_iushr  (d : decode (mB M) pc = .ok (.iushr, 1))  (g : Go P M (pc + 1) L (.int (XT.ushr x y) :: st) w out) : Go P M pc L (.int y :: .int x :: st) w out :=
  go_mv id (fun h hx hc α b r => XT.iushr (g := mkF _ pc (cL α b L) (cV α b (.int y :: .int x :: st))) h hx rfl (hb hc d) rfl r) g
theorem go_idiv  (d : decode (mB M) pc = .ok (.idiv, 1)) (hy : y ≠ 0) (g : Go P M (pc + 1) L (.int (x / y) :: st) w out) : Go P M pc L (.int y :: .int x :: st) w out :=
  go_mv id (fun h hx hc α b r => XS.idiv (g := mkF _ pc (cL α b L) (cV α b (.int y :: .int x :: st))) h hx rfl (hb hc d) rfl hy r) g
theorem go_irem  (d : decode (mB M) pc = .ok (.irem, 1)) (hy : y ≠ 0) (g : Go P M (pc + 1) L (.int (x % y) :: st) w out) : Go P M pc L (.int y :: .int x :: st) w out :=
  go_mv id (fun h hx hc α b r => XS.irem (g := mkF _ pc (cL α b L) (cV α b (.int y :: .int x :: st))) h hx rfl (hb hc d) rfl hy (by rw [irem_eq_mod x y]; exact r)) g
theorem go_ineg  (d : decode (mB M) pc = .ok (.ineg, 1))  (g : Go P M (pc + 1) L (.int (-x) :: st) w out) : Go P M pc L (.int x :: st) w out :=
  go_mv id (fun h hx hc α b r => XS.ineg (g := mkF _ pc (cL α b L) (cV α b (.int x :: st))) h hx rfl (hb hc d) rfl r) g
theorem go_ladd  (d : decode (mB M) pc = .ok (.ladd, 1))  (g : Go P M (pc + 1) L (.long (u + r) :: st) w out) : Go P M pc L (.long r :: .long u :: st) w out :=
  go_mv id (fun h hx hc α b k => XT.ladd (g := mkF _ pc (cL α b L) (cV α b (.long r :: .long u :: st))) h hx rfl (hb hc d) rfl k) g
theorem go_lsub  (d : decode (mB M) pc = .ok (.lsub, 1))  (g : Go P M (pc + 1) L (.long (u - r) :: st) w out) : Go P M pc L (.long r :: .long u :: st) w out :=
  go_mv id (fun h hx hc α b k => XT.lsub (g := mkF _ pc (cL α b L) (cV α b (.long r :: .long u :: st))) h hx rfl (hb hc d) rfl k) g
theorem go_lmul  (d : decode (mB M) pc = .ok (.lmul, 1))  (g : Go P M (pc + 1) L (.long (u * r) :: st) w out) : Go P M pc L (.long r :: .long u :: st) w out :=
  go_mv id (fun h hx hc α b k => XT.lmul (g := mkF _ pc (cL α b L) (cV α b (.long r :: .long u :: st))) h hx rfl (hb hc d) rfl k) g
theorem go_land  (d : decode (mB M) pc = .ok (.land, 1))  (g : Go P M (pc + 1) L (.long (u &&& r) :: st) w out) : Go P M pc L (.long r :: .long u :: st) w out :=
  go_mv id (fun h hx hc α b k => XT.land (g := mkF _ pc (cL α b L) (cV α b (.long r :: .long u :: st))) h hx rfl (hb hc d) rfl k) g
theorem go_lor  (d : decode (mB M) pc = .ok (.lor, 1))  (g : Go P M (pc + 1) L (.long (u ||| r) :: st) w out) : Go P M pc L (.long r :: .long u :: st) w out :=
  go_mv id (fun h hx hc α b k => XT.lor (g := mkF _ pc (cL α b L) (cV α b (.long r :: .long u :: st))) h hx rfl (hb hc d) rfl k) g
theorem go_lxor  (d : decode (mB M) pc = .ok (.lxor, 1))  (g : Go P M (pc + 1) L (.long (u ^^^ r) :: st) w out) : Go P M pc L (.long r :: .long u :: st) w out :=
  go_mv id (fun h hx hc α b k => XT.lxor (g := mkF _ pc (cL α b L) (cV α b (.long r :: .long u :: st))) h hx rfl (hb hc d) rfl k) g
theorem go_lshl  (d : decode (mB M) pc = .ok (.lshl, 1))  (g : Go P M (pc + 1) L (.long (u <<< (y.toInt64 &&& 63)) :: st) w out) : Go P M pc L (.int y :: .long u :: st) w out :=
  go_mv id (fun h hx hc α b r => XT.lshl (g := mkF _ pc (cL α b L) (cV α b (.int y :: .long u :: st))) h hx rfl (hb hc d) rfl r) g
theorem go_lshr  (d : decode (mB M) pc = .ok (.lshr, 1))  (g : Go P M (pc + 1) L (.long (u >>> (y.toInt64 &&& 63)) :: st) w out) : Go P M pc L (.int y :: .long u :: st) w out :=
  go_mv id (fun h hx hc α b r => XT.lshr (g := mkF _ pc (cL α b L) (cV α b (.int y :: .long u :: st))) h hx rfl (hb hc d) rfl r) g
theorem go_lushr  (d : decode (mB M) pc = .ok (.lushr, 1))  (g : Go P M (pc + 1) L (.long (XT.ushrL u y) :: st) w out) : Go P M pc L (.int y :: .long u :: st) w out :=
  go_mv id (fun h hx hc α b r => XT.lushr (g := mkF _ pc (cL α b L) (cV α b (.int y :: .long u :: st))) h hx rfl (hb hc d) rfl r) g
theorem go_lcmp  (d : decode (mB M) pc = .ok (.lcmp, 1))  (g : Go P M (pc + 1) L (.int (XT.cmpL u r) :: st) w out) : Go P M pc L (.long r :: .long u :: st) w out :=
  go_mv id (fun h hx hc α b k => XT.lcmp (g := mkF _ pc (cL α b L) (cV α b (.long r :: .long u :: st))) h hx rfl (hb hc d) rfl k) g
theorem go_i2l  (d : decode (mB M) pc = .ok (.i2l, 1))  (g : Go P M (pc + 1) L (.long x.toInt64 :: st) w out) : Go P M pc L (.int x :: st) w out :=
  go_mv id (fun h hx hc α b r => XT.i2l (g := mkF _ pc (cL α b L) (cV α b (.int x :: st))) h hx rfl (hb hc d) rfl r) g
theorem go_l2i  (d : decode (mB M) pc = .ok (.l2i, 1))  (g : Go P M (pc + 1) L (.int u.toInt32 :: st) w out) : Go P M pc L (.long u :: st) w out :=
  go_mv id (fun h hx hc α b r => XT.l2i (g := mkF _ pc (cL α b L) (cV α b (.long u :: st))) h hx rfl (hb hc d) rfl r) g
theorem go_i2b  (d : decode (mB M) pc = .ok (.i2b, 1))  (g : Go P M (pc + 1) L (.int x.toInt8.toInt32 :: st) w out) : Go P M pc L (.int x :: st) w out :=
  go_mv id (fun h hx hc α b r => XT.i2b (g := mkF _ pc (cL α b L) (cV α b (.int x :: st))) h hx rfl (hb hc d) rfl r) g
theorem go_iinc {k : Nat} {i : Int} (d : decode (mB M) pc = .ok (.iinc k i, 3)) (h1 : L[k]? = some (.val (.int x))) (hv : v = Int32.ofInt i) (hl : storeLocals L.toArray k (.int (x + v)) = some L'.toArray) (g : Go P M (pc + 3) L' (st) w out) : Go P M pc L (st) w out :=
  by subst hv; exact go_mv (fun q => by have := store_size hl; simp at this; omega) (fun h hx hc α b r => XS.iinc (g := mkF _ pc (cL α b L) (cV α b (st))) h hx rfl (hb hc d) (cL_get h1) (storeC hl) r) g
theorem go_goto {o : Int} (d : decode (mB M) pc = .ok (.goto o, 3)) (hp : 0 ≤ (pc : Int) + o ∧ ((pc : Int) + o).toNat = pc') (g : Go P M pc' L (st) w out) : Go P M pc L (st) w out :=
  go_mv id (fun h hx hc α b r => XS.goto (g := mkF _ pc (cL α b L) (cV α b (st))) h hx rfl rfl (hb hc d) hp.1 hp.2 r) g
theorem go_ifY {cd : ClassFile.Cond} {o : Int} (d : decode (mB M) pc = .ok (.ifCond cd o, 3)) (hq : ifCond.holds cd x = true) (hp : 0 ≤ (pc : Int) + o ∧ ((pc : Int) + o).toNat = pc') (g : Go P M pc' L (st) w out) : Go P M pc L (.int x :: st) w out :=
  go_mv id (fun h hx hc α b r => XS.ifYes (g := mkF _ pc (cL α b L) (cV α b (.int x :: st))) h hx rfl rfl (hb hc d) rfl hq hp.1 hp.2 r) g
theorem go_ifN {cd : ClassFile.Cond} {o : Int} (d : decode (mB M) pc = .ok (.ifCond cd o, 3)) (hq : ifCond.holds cd x = false) (g : Go P M (pc + 3) L (st) w out) : Go P M pc L (.int x :: st) w out :=
  go_mv id (fun h hx hc α b r => XS.ifNo (g := mkF _ pc (cL α b L) (cV α b (.int x :: st))) h hx rfl (hb hc d) rfl hq r) g
theorem go_icY {cd : ClassFile.Cond} {o : Int} (d : decode (mB M) pc = .ok (.if_icmp cd o, 3)) (hq : if_icmp.holds cd x y = true) (hp : 0 ≤ (pc : Int) + o ∧ ((pc : Int) + o).toNat = pc') (g : Go P M pc' L (st) w out) : Go P M pc L (.int y :: .int x :: st) w out :=
  go_mv id (fun h hx hc α b r => XS.icmpYes (g := mkF _ pc (cL α b L) (cV α b (.int y :: .int x :: st))) h hx rfl rfl (hb hc d) rfl hq hp.1 hp.2 r) g
theorem go_icN {cd : ClassFile.Cond} {o : Int} (d : decode (mB M) pc = .ok (.if_icmp cd o, 3)) (hq : if_icmp.holds cd x y = false) (g : Go P M (pc + 3) L (st) w out) : Go P M pc L (.int y :: .int x :: st) w out :=
  go_mv id (fun h hx hc α b r => XS.icmpNo (g := mkF _ pc (cL α b L) (cV α b (.int y :: .int x :: st))) h hx rfl (hb hc d) rfl hq r) g
theorem go_nonnull {o : Int} (d : decode (mB M) pc = .ok (.ifnonnull o, 3)) (hp : 0 ≤ (pc : Int) + o ∧ ((pc : Int) + o).toNat = pc') (g : Go P M pc' L st w out) : Go P M pc L (.ref 0 :: st) w out :=
  go_mv id (fun h hx hc α b r => XT.ifnonnullYes (g := mkF _ pc (cL α b L) (cV α b (.ref 0 :: st))) (b := α) h hx rfl rfl (hb hc d) rfl hp.1 hp.2 r) g
theorem go_tswIn {dflt low high : Int} {offs : Array Int} {len : Nat} {o : Int} (d : decode (mB M) pc = .ok (.tableswitch dflt low high offs, len)) (hin : ¬ (x.toInt < low ∨ x.toInt > high)) (hoff : offs[(x.toInt - low).toNat]? = some o) (hp : 0 ≤ (pc : Int) + o ∧ ((pc : Int) + o).toNat = pc') (g : Go P M pc' L st w out) : Go P M pc L (.int x :: st) w out :=
  go_mv id (fun h hx hc α b r => XS.tswIn (g := mkF _ pc (cL α b L) (cV α b (.int x :: st))) h hx rfl rfl (hb hc d) rfl hin hoff hp.1 hp.2 r) g
theorem go_tswOut {dflt low high : Int} {offs : Array Int} {len : Nat} (d : decode (mB M) pc = .ok (.tableswitch dflt low high offs, len)) (hout : x.toInt < low ∨ x.toInt > high) (hp : 0 ≤ (pc : Int) + dflt ∧ ((pc : Int) + dflt).toNat = pc') (g : Go P M pc' L st w out) : Go P M pc L (.int x :: st) w out :=
  go_mv id (fun h hx hc α b r => XS.tswOut (g := mkF _ pc (cL α b L) (cV α b (.int x :: st))) h hx rfl rfl (hb hc d) rfl hout hp.1 hp.2 r) g
/-! ### constants of the pool -/
theorem go_ldc {k : Nat} (d : decode (mB M) pc = .ok (.ldc k, 2)) (hk : Jvm.Cond.constant (mY M).cls k v ∈ P.1) (g : Go P M (pc + 2) L (.int v :: st) w out) : Go P M pc L st w out :=
  go_ch (fun l Z a0 p e R s m args below meth c α b n0 h0 uC uS ok hl T locs cells slots I => ⟨T, locs, cells, slots, I, fun target r => Stand.ldcI (g := mkF m pc (cL α b L) (cV α b st)) I.1 ok.2.2.1 ok.2.2.2.2.1 (mvT ok.2.2.2.1 (ok.1 _ hk)) rfl (hb ok.2.2.2.2.2.1 d) r⟩) g
theorem go_ldcW {k : Nat} (d : decode (mB M) pc = .ok (.ldc_w k, 3)) (hk : Jvm.Cond.constant (mY M).cls k v ∈ P.1) (g : Go P M (pc + 3) L (.int v :: st) w out) : Go P M pc L st w out :=
  go_ch (fun l Z a0 p e R s m args below meth c α b n0 h0 uC uS ok hl T locs cells slots I => ⟨T, locs, cells, slots, I, fun target r => Stand.ldcWI (g := mkF m pc (cL α b L) (cV α b st)) I.1 ok.2.2.1 ok.2.2.2.2.1 (mvT ok.2.2.2.1 (ok.1 _ hk)) rfl (hb ok.2.2.2.2.2.1 d) r⟩) g
theorem go_ldc2 {k : Nat} (d : decode (mB M) pc = .ok (.ldc2_w k, 3)) (hk : Jvm.Cond.constantLong (mY M).cls k u ∈ P.1) (g : Go P M (pc + 3) L (.long u :: st) w out) : Go P M pc L st w out :=
  go_ch (fun l Z a0 p e R s m args below meth c α b n0 h0 uC uS ok hl T locs cells slots I => ⟨T, locs, cells, slots, I, fun target r => Stand.ldc2J (g := mkF m pc (cL α b L) (cV α b st)) I.1 ok.2.2.1 ok.2.2.2.2.1 (mvT ok.2.2.2.1 (ok.1 _ hk)) rfl (hb ok.2.2.2.2.2.1 d) r⟩) g
/-! ### returns -/
theorem go_iret (hT : mT M = some .int) (d : decode (mB M) pc = .ok (.ireturn, 1)) : Go P M pc L (.int x :: st) w (some (.int x), w) := by
  intro hl l Z a0 p e R s m args below meth c α b n0 h0 uC uS ok T locs cells slots I
  exact ⟨T, locs, cells, slots, I, fun fs hv => retOut I.1 ok.2.2.1 (t := .int) (ok.2.2.2.2.2.2.2.1.trans hT) rfl (Or.inl ⟨rfl, Or.inl rfl, x, rfl⟩) (hb ok.2.2.2.2.2.1 d) hv⟩
theorem go_zret (hT : mT M = some .boolean) (d : decode (mB M) pc = .ok (.ireturn, 1)) (hz : v = nar .boolean x) : Go P M pc L (.int x :: st) w (some (.int v), w) := by
  intro hl l Z a0 p e R s m args below meth c α b n0 h0 uC uS ok T locs cells slots I
  subst hz
  exact ⟨T, locs, cells, slots, I, fun fs hv => retN I.1 ok.2.2.1 (t := .boolean) (ok.2.2.2.2.2.2.2.1.trans hT) (Or.inl rfl) (hb ok.2.2.2.2.2.1 d) hv⟩
theorem go_lret (hT : mT M = some .long) (d : decode (mB M) pc = .ok (.lreturn, 1)) : Go P M pc L (.long u :: st) w (some (.long u), w) := by
  intro hl l Z a0 p e R s m args below meth c α b n0 h0 uC uS ok T locs cells slots I
  exact ⟨T, locs, cells, slots, I, fun fs hv => retOut I.1 ok.2.2.1 (t := .long) (ok.2.2.2.2.2.2.2.1.trans hT) rfl (Or.inr (Or.inl ⟨rfl, rfl, u, rfl⟩)) (hb ok.2.2.2.2.2.1 d) hv⟩
theorem go_ret (hT : mT M = none) (d : decode (mB M) pc = .ok (.return_, 1)) : Go P M pc L [] w (none, w) := by
  intro hl l Z a0 p e R s m args below meth c α b n0 h0 uC uS ok T locs cells slots I
  exact ⟨T, locs, cells, slots, I, fun fs hv => I.1.returnOut ok.2.2.1 (ok.2.2.2.2.2.2.2.1.trans hT) (hb ok.2.2.2.2.2.1 d) hv⟩
/-! ### fields -/
variable {o o' : Nat × S} {s : S} {k n : Nat}
theorem rep_one {Z : State} {ci : CI} {α b : Nat} {h : Heap} (F : RepW Z ci α b (none, [o]) h) : Rep1 Z ci h b o := by
  have := F.2 0 o rfl
  simpa using this
theorem rep_mk {Z : State} {ci : CI} {α b : Nat} {h : Heap} (F : Rep1 Z ci h b o) : RepW Z ci α b (none, [o]) h :=
  ⟨fun l hl => (nomatch hl), fun i o1 ho => by
    cases i with
    | zero => cases ho; simpa using F
    | succ i => simp at ho⟩
/-- the entry idx names the scalar field number f; of type ty -/
def FldS (P : PI) (idx f : Nat) (ty : FieldType) : Prop := ∃ nm ds, (cS P.2)[f]? = some (nm, ds, ty) ∧ Jvm.Cond.fieldLink (cN P.2) idx (cN P.2) nm ds ∈ P.1
def FldA (P : PI) (idx q : Nat) (ty : FieldType) : Prop := ∃ nm ds cap, (cA P.2)[q]? = some (nm, ds, ty, cap) ∧ Jvm.Cond.fieldLink (cN P.2) idx (cN P.2) nm ds ∈ P.1
theorem go_getV {idx f : Nat} {ty : FieldType} (F : FldS P idx f ty) (hM : (mY M).cls = cN P.2) (d : decode (mB M) pc = .ok (.getfield idx, 3)) {vv : Value} (hv : vv = scV ty s f) (hr : ∀ α b, con α b vv = vv) (g : Go P M (pc + 3) L (vv :: st) (none, [(k, s)]) out) : Go P M pc L (.ref 1 :: st) (none, [(k, s)]) out :=
  go_ch (fun l Z a0 p e R s1 m args below meth c α b n0 h0 uC uS ok hl T locs cells slots I => by
    obtain ⟨nm, ds, f1, f2⟩ := F
    obtain ⟨hw, fa, hx, hZ, hown, hc, hml, hret, hnm, hR, hn0, htop, hsz⟩ := ok
    obtain ⟨X, Rp, Fm, Nl, hs, u1, u2, c1, c2, hN⟩ := I
    have Fd := (rep_one Rp).2.1 f _ f1
    rw [hM] at hown
    obtain ⟨T', X', e', stp⟩ := getF X hx hZ hown (host := "") (Or.inl (hw _ f2)) Via.refl rfl Fd (g := mkF m pc (cL α b L) (cV α b (.ref 1 :: st))) rfl rfl (hb hc d)
    refine ⟨T', locs, cells, slots, ⟨X', by rw [e']; exact Rp, by rw [e']; exact Fm, Nl, by rw [e']; exact hs, u1, u2, c1, c2, hN⟩, fun target r => stp target ?_⟩
    rw [show cV α b (vv :: st) = con α b vv :: cV α b st from rfl, hr, hv] at r
    exact r) g
theorem go_getI {idx f : Nat} (F : FldS P idx f .int) (hM : (mY M).cls = cN P.2) (d : decode (mB M) pc = .ok (.getfield idx, 3)) (g : Go P M (pc + 3) L (.int (gI s f) :: st) (none, [(k, s)]) out) : Go P M pc L (.ref 1 :: st) (none, [(k, s)]) out :=
  go_getV F hM d rfl (fun _ _ => rfl) g
theorem go_getZ {idx f : Nat} (F : FldS P idx f .boolean) (hM : (mY M).cls = cN P.2) (d : decode (mB M) pc = .ok (.getfield idx, 3)) (g : Go P M (pc + 3) L (.int (gI s f) :: st) (none, [(k, s)]) out) : Go P M pc L (.ref 1 :: st) (none, [(k, s)]) out :=
  go_getV F hM d rfl (fun _ _ => rfl) g
theorem go_getJ {idx f : Nat} (F : FldS P idx f .long) (hM : (mY M).cls = cN P.2) (d : decode (mB M) pc = .ok (.getfield idx, 3)) (g : Go P M (pc + 3) L (.long (gL s f) :: st) (none, [(k, s)]) out) : Go P M pc L (.ref 1 :: st) (none, [(k, s)]) out :=
  go_getV F hM d rfl (fun _ _ => rfl) g
theorem go_getA {idx q : Nat} {ty : FieldType} (F : FldA P idx q ty) (hM : (mY M).cls = cN P.2) (d : decode (mB M) pc = .ok (.getfield idx, 3)) (hq : Nat.blt q k = true) (g : Go P M (pc + 3) L (.ref (q + 2) :: st) (none, [(k, s)]) out) : Go P M pc L (.ref 1 :: st) (none, [(k, s)]) out :=
  go_ch (fun l Z a0 p e R s1 m args below meth c α b n0 h0 uC uS ok hl T locs cells slots I => by
    obtain ⟨nm, ds, cap, f1, f2⟩ := F
    obtain ⟨hw, fa, hx, hZ, hown, hc, hml, hret, hnm, hR, hn0, htop, hsz⟩ := ok
    obtain ⟨X, Rp, Fm, Nl, hs, u1, u2, c1, c2, hN⟩ := I
    have Fd := (rep_one Rp).2.2.1 q _ f1
    rw [if_pos (show q < (k, s).1 by simpa [Nat.blt_eq] using hq)] at Fd
    rw [hM] at hown
    obtain ⟨T', X', e', stp⟩ := getF X hx hZ hown (host := "") (Or.inl (hw _ f2)) Via.refl rfl Fd (g := mkF m pc (cL α b L) (cV α b (.ref 1 :: st))) rfl rfl (hb hc d)
    refine ⟨T', locs, cells, slots, ⟨X', by rw [e']; exact Rp, by rw [e']; exact Fm, Nl, by rw [e']; exact hs, u1, u2, c1, c2, hN⟩, fun target r => stp target ?_⟩
    rw [show cV α b (.ref (q + 2) :: st) = .ref (b + (q + 1)) :: cV α b st from rfl] at r
    rw [show b + 1 + q = b + (q + 1) by omega]
    exact r) g
/-- another scalar of the object takes its value -/
theorem rep_put {Z : State} {a0 : Array Value} {ci : CI} {h h' : Heap} {b : Nat} {s s' : S} {k f : Nat} {nm ds : String} {ty : FieldType} {vv : Value} (fa : Facts Z a0 ci) (F : Rep1 Z ci h b (k, s)) (hf : (cS ci)[f]? = some (nm, ds, ty))
    (Wt : Wr h h' b (Jvm.RoadKit.slotOf Z (cN ci) nm ds) vv) (hv : vv = scV ty s' f) (ho : ∀ f' x, (cS ci)[f']? = some x → f' ≠ f → scV x.2.2 s' f' = scV x.2.2 s f') (ha : gA s' = gA s) (hbb : gB s' = gB s) : Rep1 Z ci h' b (k, s') := by
  obtain ⟨f1, f2, f3, f4⟩ := F
  obtain ⟨-, -, g1, g2, g3, -⟩ := fa
  have lt := get_lt hf
  refine ⟨f1.wr Wt, fun f' x hx => ?_, fun q x hx => ?_, fun q x hx hq => ?_⟩
  · by_cases e : f' = f
    · subst e
      cases hf.symm.trans hx
      show Fld Z h' b (cN ci) nm ds (scV ty s' f')
      rw [← hv]; exact (f2 f' _ hf).same Wt
    · have lt' := get_lt hx
      show Fld Z h' b (cN ci) x.1 x.2.1 (scV x.2.2 s' f')
      rw [ho f' x hx e]
      refine (f2 f' x hx).other Wt (Or.inr ?_)
      refine slot_ne (g1 f' x hx).1 (g1 f _ hf).1 ?_ (g1 f' x hx).2 (g1 f _ hf).2
      intro en
      have n1 : ((cS ci).map (fun x => x.1) ++ (cA ci).map (fun x => x.1))[f']? = some x.1 := by rw [List.getElem?_append_left (by simpa using lt')]; simp [hx]
      have n2 : ((cS ci).map (fun x => x.1) ++ (cA ci).map (fun x => x.1))[f]? = some nm := by rw [List.getElem?_append_left (by simpa using lt)]; simp [hf]
      rw [en] at n1
      obtain ⟨i1, j1⟩ := List.getElem?_eq_some_iff.mp n1
      obtain ⟨i2, j2⟩ := List.getElem?_eq_some_iff.mp n2
      exact e ((List.getElem_inj g3).mp (j1.trans j2.symm))
  · refine (f3 q x hx).other Wt (Or.inr ?_)
    have lt' := get_lt hx
    refine slot_ne (g2 q x hx).1 (g1 f _ hf).1 ?_ (g2 q x hx).2 (g1 f _ hf).2
    intro en
    have n1 : ((cS ci).map (fun x => x.1) ++ (cA ci).map (fun x => x.1))[(cS ci).length + q]? = some x.1 := by rw [List.getElem?_append_right (by simp)]; simp [hx]
    have n2 : ((cS ci).map (fun x => x.1) ++ (cA ci).map (fun x => x.1))[f]? = some nm := by rw [List.getElem?_append_left (by simpa using lt)]; simp [hf]
    rw [en] at n1
    obtain ⟨i1, j1⟩ := List.getElem?_eq_some_iff.mp n1
    obtain ⟨i2, j2⟩ := List.getElem?_eq_some_iff.mp n2
    have := (List.getElem_inj g3).mp (j1.trans j2.symm)
    omega
  · obtain ⟨c, A, e⟩ := f4 q x hx hq
    refine ⟨c, A.other Wt (nq (by omega)), e.trans ?_⟩
    show (arV x.2.2.1 s q).toArray = (arV x.2.2.1 s' q).toArray
    unfold arV
    split <;> simp [ha, hbb]
theorem go_putV {idx f : Nat} {ty : FieldType} {vv : Value} {s' : S} (F : FldS P idx f ty) (hM : (mY M).cls = cN P.2)
    (hlays : ∀ nm ds, (cS P.2)[f]? = some (nm, ds, ty) → Jvm.Cond.lays (cN P.2) (cN P.2) nm ds ∈ P.1 ∨ (Jvm.Cond.laysFinal (cN P.2) (cN P.2) nm ds ∈ P.1 ∧ (mY M).name = "<init>"))
    (hpos : 0 < mN M) (hr : ∀ α b, con α b vv = vv) (hn : narrow ty vv = vv) (hfi : fits ty vv = true) (hv : vv = scV ty s' f) (ho : ∀ f' x, (cS P.2)[f']? = some x → f' ≠ f → scV x.2.2 s' f' = scV x.2.2 s f') (ha : gA s' = gA s) (hbb : gB s' = gB s)
    (d : decode (mB M) pc = .ok (.putfield idx, 3)) (g : Go P M (pc + 3) L st (none, [(k, s')]) out) : Go P M pc L (vv :: .ref 1 :: st) (none, [(k, s)]) out :=
  go_ch (fun l Z a0 p e R s1 m args below meth c α b n0 h0 uC uS ok hl T locs cells slots I => by
    obtain ⟨nm, ds, f1, f2⟩ := F
    obtain ⟨hw, fa, hx, hZ, hown, hc, hml, hret, hnm, hR, hn0, htop, hsz⟩ := ok
    obtain ⟨X, Rp, Fm, Nl, hs, u1, u2, c1, c2, hN⟩ := I
    have Rp1 := rep_one Rp
    have Fd := Rp1.2.1 f _ f1
    rw [hM] at hown
    obtain ⟨T', h', X', e', Wt, stp⟩ := putF X hx hZ hown (host := "") (Or.inl (hw _ f2)) Via.refl rfl Fd Rp1.1 ((hlays nm ds f1).imp (fun q => hw _ q) (fun q => ⟨hw _ q.1, rfl, hnm.trans q.2⟩)) fa.1 (fa.2.2.1 f _ f1).2 hn hfi (g := mkF m pc (cL α b L) (vv :: .ref b :: cV α b st)) rfl rfl (hb hc d)
    refine ⟨T', _, cells, slots, ⟨X', rep_mk (by rw [e']; exact rep_put fa Rp1 f1 Wt hv ho ha hbb), by rw [e']; exact Fm.wr Wt (Nat.le_refl _) (by have := Nat.mul_le_mul_left (cK P.2 + 1) hpos; omega), Fr.snoc X' Nl hn0, by rw [e', Wt.size]; exact hs, u1, u2, c1, c2, hN⟩, fun target r => ?_⟩
    rw [show cV α b (vv :: .ref 1 :: st) = con α b vv :: .ref b :: cV α b st from rfl, hr]
    exact stp target r) g
theorem scV_sI (s : S) (f : Nat) (x : Int32) (ty : FieldType) (f' : Nat) (h : f' ≠ f) : scV ty (sI s f x) f' = scV ty s f' := by
  unfold scV; split <;> simp [gI_sI, gL_sI, h]
theorem scV_sL (s : S) (f : Nat) (x : Int64) (ty : FieldType) (f' : Nat) (h : f' ≠ f) : scV ty (sL s f x) f' = scV ty s f' := by
  unfold scV; split <;> simp [gI_sL, gL_sL, h]
/-- the word that lets the field be written -/
def Wrt (P : PI) (M : Meth) (f : Nat) : Prop := ∃ nm ds ty, (cS P.2)[f]? = some (nm, ds, ty) ∧ (Jvm.Cond.lays (cN P.2) (cN P.2) nm ds ∈ P.1 ∨ (Jvm.Cond.laysFinal (cN P.2) (cN P.2) nm ds ∈ P.1 ∧ (mY M).name = "<init>"))
theorem Wrt.use {f : Nat} {ty : FieldType} (h : Wrt P M f) : ∀ nm ds, (cS P.2)[f]? = some (nm, ds, ty) → Jvm.Cond.lays (cN P.2) (cN P.2) nm ds ∈ P.1 ∨ (Jvm.Cond.laysFinal (cN P.2) (cN P.2) nm ds ∈ P.1 ∧ (mY M).name = "<init>") := by
  obtain ⟨nm, ds, ty', h1, h2⟩ := h
  intro nm' ds' h3
  cases h1.symm.trans h3
  exact h2
theorem go_putI {idx f : Nat} (F : FldS P idx f .int) (hM : (mY M).cls = cN P.2) (hl : Wrt P M f) (hp : 0 < mN M) (d : decode (mB M) pc = .ok (.putfield idx, 3)) (g : Go P M (pc + 3) L st (none, [(k, sI s f x)]) out) : Go P M pc L (.int x :: .ref 1 :: st) (none, [(k, s)]) out :=
  go_putV F hM hl.use hp (fun _ _ => rfl) rfl rfl (by simp [scV, gI_sI]) (fun f' y _ h => scV_sI s f x _ f' h) rfl rfl d g
theorem go_putZ {idx f : Nat} (F : FldS P idx f .boolean) (hM : (mY M).cls = cN P.2) (hl : Wrt P M f) (hp : 0 < mN M) (hz : x = 0 ∨ x = 1) (d : decode (mB M) pc = .ok (.putfield idx, 3)) (g : Go P M (pc + 3) L st (none, [(k, sI s f x)]) out) : Go P M pc L (.int x :: .ref 1 :: st) (none, [(k, s)]) out :=
  go_putV F hM hl.use hp (fun _ _ => rfl) (by rcases hz with rfl | rfl <;> rfl) (by rcases hz with rfl | rfl <;> rfl) (by simp [scV, gI_sI]) (fun f' y _ h => scV_sI s f x _ f' h) rfl rfl d g
theorem go_putJ {idx f : Nat} (F : FldS P idx f .long) (hM : (mY M).cls = cN P.2) (hl : Wrt P M f) (hp : 0 < mN M) (d : decode (mB M) pc = .ok (.putfield idx, 3)) (g : Go P M (pc + 3) L st (none, [(k, sL s f u)]) out) : Go P M pc L (.long u :: .ref 1 :: st) (none, [(k, s)]) out :=
  go_putV F hM hl.use hp (fun _ _ => rfl) rfl rfl (by simp [scV, gL_sL]) (fun f' y _ h => scV_sL s f u _ f' h) rfl rfl d g
/-! ### arrays -/
theorem ix_some {A : Type} {l : List A} {j : Int32} {x : A} (h : ix l j = some x) : ¬ j < 0 ∧ l[j.toNatClampNeg]? = some x := by
  unfold ix at h; split at h
  · cases h
  · rename_i q; exact ⟨q, h⟩
theorem st_some {A : Type} {l l' : List A} {j : Int32} {x : A} (h : Jvm.AM.st l j x = some l') : ¬ j < 0 ∧ j.toNatClampNeg < l.length ∧ l' = l.set j.toNatClampNeg x := by
  unfold Jvm.AM.st at h; split at h
  · cases h
  · rename_i q; split at h
    · rename_i q2; cases h; exact ⟨q, q2, rfl⟩
    · cases h
theorem ar_in {c : Cell} {vs : List Value} {j : Int32} {vv : Value} (e : c.slots = vs.toArray) (h1 : ¬ j < 0) (h2 : vs[j.toNatClampNeg]? = some vv) : ¬ (j < 0 ∨ c.slots.size ≤ j.toNatClampNeg) ∧ c.slots[j.toNatClampNeg]? = some vv := by
  have := get_lt h2
  refine ⟨fun q => ?_, by rw [e]; simpa using h2⟩
  rcases q with q | q
  · exact h1 q
  · rw [e] at q; simp at q; omega
theorem go_iaload {q : Nat} {j : Int32} {nm ds : String} {cap : Nat} (ha : (cA P.2)[q]? = some (nm, ds, .int, cap)) (hq : Nat.blt q k = true) (hx : ix (gA s q) j = some v) (d : decode (mB M) pc = .ok (.iaload, 1)) (g : Go P M (pc + 1) L (.int v :: st) (none, [(k, s)]) out) : Go P M pc L (.int j :: .ref (q + 2) :: st) (none, [(k, s)]) out :=
  go_ch (fun l Z a0 p e R s1 m args below meth c α b n0 h0 uC uS ok hl T locs cells slots I => by
    obtain ⟨cl, A, ec⟩ := (rep_one I.2.1).2.2.2 q _ ha (by simpa [Nat.blt_eq] using hq)
    obtain ⟨h1, h2⟩ := ix_some hx
    obtain ⟨h3, h4⟩ := ar_in ec h1 (vv := .int v) (by simp [arV, h2])
    refine ⟨T, locs, cells, slots, I, fun target r => ?_⟩
    refine I.1.iaload ok.2.2.1 (j := j) (v := .int v) A.1 (State.isArrayOf_alike ok.2.2.2.1.alike A.2.1) A.2.2 h3 h4 (g := mkF m pc (cL α b L) (.int j :: .ref (b + 1 + q) :: cV α b st)) rfl rfl (hb ok.2.2.2.2.2.1 d) _ r |> fun t => ?_
    rw [show cV α b (.int j :: .ref (q + 2) :: st) = .int j :: .ref (b + (q + 1)) :: cV α b st from rfl, show b + (q + 1) = b + 1 + q by omega]
    exact t) g
theorem go_laload {q : Nat} {j : Int32} {nm ds : String} {cap : Nat} (ha : (cA P.2)[q]? = some (nm, ds, .long, cap)) (hq : Nat.blt q k = true) (hx : ix (gB s q) j = some u) (d : decode (mB M) pc = .ok (.laload, 1)) (g : Go P M (pc + 1) L (.long u :: st) (none, [(k, s)]) out) : Go P M pc L (.int j :: .ref (q + 2) :: st) (none, [(k, s)]) out :=
  go_ch (fun l Z a0 p e R s1 m args below meth c α b n0 h0 uC uS ok hl T locs cells slots I => by
    obtain ⟨cl, A, ec⟩ := (rep_one I.2.1).2.2.2 q _ ha (by simpa [Nat.blt_eq] using hq)
    obtain ⟨h1, h2⟩ := ix_some hx
    obtain ⟨h3, h4⟩ := ar_in ec h1 (vv := .long u) (by simp [arV, h2])
    refine ⟨T, locs, cells, slots, I, fun target r => ?_⟩
    refine I.1.laload ok.2.2.1 (j := j) (v := .long u) A.1 (State.isArrayOf_alike ok.2.2.2.1.alike A.2.1) A.2.2 h3 h4 (g := mkF m pc (cL α b L) (.int j :: .ref (b + 1 + q) :: cV α b st)) rfl rfl (hb ok.2.2.2.2.2.1 d) _ r |> fun t => ?_
    rw [show cV α b (.int j :: .ref (q + 2) :: st) = .int j :: .ref (b + (q + 1)) :: cV α b st from rfl, show b + (q + 1) = b + 1 + q by omega]
    exact t) g
theorem go_baload {q : Nat} {j : Int32} {nm ds : String} {ty : FieldType} {cap : Nat} (ha : (cA P.2)[q]? = some (nm, ds, ty, cap)) (hty : ty = .boolean ∨ ty = .byte) (hq : Nat.blt q k = true) (hx : ix (gA s q) j = some v) (d : decode (mB M) pc = .ok (.baload, 1)) (g : Go P M (pc + 1) L (.int v :: st) (none, [(k, s)]) out) : Go P M pc L (.int j :: .ref (q + 2) :: st) (none, [(k, s)]) out :=
  go_ch (fun l Z a0 p e R s1 m args below meth c α b n0 h0 uC uS ok hl T locs cells slots I => by
    obtain ⟨cl, A, ec⟩ := (rep_one I.2.1).2.2.2 q _ ha (by simpa [Nat.blt_eq] using hq)
    obtain ⟨h1, h2⟩ := ix_some hx
    refine ⟨T, locs, cells, slots, I, fun target r => ?_⟩
    rw [show cV α b (.int j :: .ref (q + 2) :: st) = .int j :: .ref (b + (q + 1)) :: cV α b st from rfl, show b + (q + 1) = b + 1 + q by omega]
    rcases hty with rfl | rfl
    · obtain ⟨h3, h4⟩ := ar_in ec h1 (vv := .int v) (by simp [arV, h2])
      exact I.1.baloadBooleans ok.2.2.1 (j := j) (v := .int v) A.1 (State.isArrayOf_alike ok.2.2.2.1.alike A.2.1) A.2.2 h3 h4 (g := mkF m pc (cL α b L) (.int j :: .ref (b + 1 + q) :: cV α b st)) rfl rfl (hb ok.2.2.2.2.2.1 d) _ r
    · obtain ⟨h3, h4⟩ := ar_in ec h1 (vv := .int v) (by simp [arV, h2])
      exact I.1.baloadBytes ok.2.2.1 (j := j) (v := .int v) A.1 (State.isArrayOf_alike ok.2.2.2.1.alike A.2.1) A.2.2 h3 h4 (g := mkF m pc (cL α b L) (.int j :: .ref (b + 1 + q) :: cV α b st)) rfl rfl (hb ok.2.2.2.2.2.1 d) _ r) g
theorem go_alen {q : Nat} {nm ds : String} {ty : FieldType} {cap : Nat} (ha : (cA P.2)[q]? = some (nm, ds, ty, cap)) (hty : ty ≠ .long) (hq : Nat.blt q k = true) (d : decode (mB M) pc = .ok (.arraylength, 1)) (g : Go P M (pc + 1) L (.int (gA s q).length.toInt32 :: st) (none, [(k, s)]) out) : Go P M pc L (.ref (q + 2) :: st) (none, [(k, s)]) out :=
  go_ch (fun l Z a0 p e R s1 m args below meth c α b n0 h0 uC uS ok hl T locs cells slots I => by
    obtain ⟨cl, A, ec⟩ := (rep_one I.2.1).2.2.2 q _ ha (by simpa [Nat.blt_eq] using hq)
    refine ⟨T, locs, cells, slots, I, fun target r => ?_⟩
    have e1 : cl.slots.size = (gA s q).length := by rw [ec]; cases ty <;> simp [arV] at hty ⊢
    rw [show cV α b (.ref (q + 2) :: st) = .ref (b + (q + 1)) :: cV α b st from rfl, show b + (q + 1) = b + 1 + q by omega]
    refine I.1.arraylength ok.2.2.1 (cell := cl) A.1 (State.isArrayOf_alike ok.2.2.2.1.alike A.2.1) (g := mkF m pc (cL α b L) (.ref (b + 1 + q) :: cV α b st)) rfl rfl (hb ok.2.2.2.2.2.1 d) _ ?_
    rw [e1]; exact r) g
theorem go_sload {l0 : List Int32} {os : List (Nat × S)} {j : Int32} (hx : ix l0 j = some v) (d : decode (mB M) pc = .ok (.iaload, 1)) (g : Go P M (pc + 1) L (.int v :: st) (some l0, os) out) : Go P M pc L (.int j :: .ref 0 :: st) (some l0, os) out :=
  go_ch (fun l Z a0 p e R s1 m args below meth c α b n0 h0 uC uS ok hl T locs cells slots I => by
    obtain ⟨cl, A, ec⟩ := (I.2.1.1 l0 rfl).1
    obtain ⟨h1, h2⟩ := ix_some hx
    obtain ⟨h3, h4⟩ := ar_in ec h1 (vv := .int v) (by simp [h2])
    exact ⟨T, locs, cells, slots, I, fun target r => I.1.iaload ok.2.2.1 (j := j) (v := .int v) A.1 (State.isArrayOf_alike ok.2.2.2.1.alike A.2.1) A.2.2 h3 h4 (g := mkF m pc (cL α b L) (cV α b (.int j :: .ref 0 :: st))) rfl rfl (hb ok.2.2.2.2.2.1 d) _ r⟩) g
theorem go_slen {l0 : List Int32} {os : List (Nat × S)} (d : decode (mB M) pc = .ok (.arraylength, 1)) (g : Go P M (pc + 1) L (.int l0.length.toInt32 :: st) (some l0, os) out) : Go P M pc L (.ref 0 :: st) (some l0, os) out :=
  go_ch (fun l Z a0 p e R s1 m args below meth c α b n0 h0 uC uS ok hl T locs cells slots I => by
    obtain ⟨cl, A, ec⟩ := (I.2.1.1 l0 rfl).1
    refine ⟨T, locs, cells, slots, I, fun target r => ?_⟩
    have e1 : cl.slots.size = l0.length := by rw [ec]; simp
    refine I.1.arraylength ok.2.2.1 (cell := cl) A.1 (State.isArrayOf_alike ok.2.2.2.1.alike A.2.1) (g := mkF m pc (cL α b L) (cV α b (.ref 0 :: st))) rfl rfl (hb ok.2.2.2.2.2.1 d) _ ?_
    rw [e1]; exact r) g
/-- a component of an array of the object takes its value -/
theorem rep_store {Z : State} {ci : CI} {h h' : Heap} {b : Nat} {s s' : S} {k q i : Nat} {nm ds : String} {ty : FieldType} {cap : Nat} {vv : Value} (F : Rep1 Z ci h b (k, s)) (hf : (cA ci)[q]? = some (nm, ds, ty, cap)) (hq : q < k)
    (Wt : Wr h h' (b + 1 + q) i vv) (hi : i < (arV ty s q).length) (hv : arV ty s' q = (arV ty s q).set i vv) (ho : ∀ q' x, (cA ci)[q']? = some x → q' ≠ q → arV x.2.2.1 s' q' = arV x.2.2.1 s q') (ha : gI s' = gI s) (hbb : gL s' = gL s) : Rep1 Z ci h' b (k, s') := by
  obtain ⟨f1, f2, f3, f4⟩ := F
  refine ⟨f1.wr Wt, fun f x hx => ?_, fun q' x hx => (f3 q' x hx).other Wt (Or.inl (nq (by omega))), fun q' x hx hq' => ?_⟩
  · have e : scV x.2.2 s' f = scV x.2.2 s f := by unfold scV; split <;> simp [ha, hbb]
    show Fld Z h' b (cN ci) x.1 x.2.1 (scV x.2.2 s' f)
    rw [e]
    exact (f2 f x hx).other Wt (Or.inl (nq (by omega)))
  · by_cases e : q' = q
    · subst e
      cases hf.symm.trans hx
      obtain ⟨c, A, ec⟩ := f4 q' _ hf hq
      refine ⟨_, A.same Wt, ?_⟩
      show (c.setSlot i vv).slots = (arV ty s' q').toArray
      rw [hv]
      simp only [Cell.setSlot, ec]
      simp
    · obtain ⟨c, A, ec⟩ := f4 q' x hx hq'
      refine ⟨c, A.other Wt (nq (by omega)), ec.trans ?_⟩
      rw [ho q' x hx e]
theorem arV_sA (s : S) (q : Nat) (l : List Int32) (ty : FieldType) (q' : Nat) (h : q' ≠ q) : arV ty (sA s q l) q' = arV ty s q' := by
  unfold arV; split <;> simp [gA_sA, gB_sA, h]
theorem arV_sB (s : S) (q : Nat) (l : List Int64) (ty : FieldType) (q' : Nat) (h : q' ≠ q) : arV ty (sB s q l) q' = arV ty s q' := by
  unfold arV; split <;> simp [gA_sB, gB_sB, h]
theorem in_of {c : Cell} {vs : List Value} {j : Int32} (e : c.slots = vs.toArray) (h1 : ¬ j < 0) (h2 : j.toNatClampNeg < vs.length) : ¬ (j < 0 ∨ c.slots.size ≤ j.toNatClampNeg) := fun q => by
  rcases q with q | q
  · exact h1 q
  · rw [e] at q; simp at q; omega
theorem go_iastore {q : Nat} {j : Int32} {nm ds : String} {cap : Nat} {l' : List Int32} (ha : (cA P.2)[q]? = some (nm, ds, .int, cap)) (hq : Nat.blt q k = true) (hp : 0 < mN M) (hx : Jvm.AM.st (gA s q) j x = some l') (d : decode (mB M) pc = .ok (.iastore, 1)) (g : Go P M (pc + 1) L st (none, [(k, sA s q l')]) out) : Go P M pc L (.int x :: .int j :: .ref (q + 2) :: st) (none, [(k, s)]) out :=
  go_ch (fun l Z a0 p e R s1 m args below meth c α b n0 h0 uC uS ok hl T locs cells slots I => by
    have hq' : q < k := by simpa [Nat.blt_eq] using hq
    have hqK := get_lt ha
    obtain ⟨X, Rp, Fm, Nl, hs, u1, u2, c1, c2, hN⟩ := I
    obtain ⟨cl, A, ec⟩ := (rep_one Rp).2.2.2 q _ ha hq'
    obtain ⟨h1, h2, rfl⟩ := st_some hx
    have hin := in_of ec h1 (by simpa [arV] using h2)
    obtain ⟨T', h', X', e', Wt, stp⟩ := stI X ok.2.2.1 ok.2.2.2.1 rfl A (x := x) hin (g := mkF m pc (cL α b L) (.int x :: .int j :: .ref (b + 1 + q) :: cV α b st)) rfl rfl (hb ok.2.2.2.2.2.1 d)
    refine ⟨T', _, cells, slots, ⟨X', rep_mk (by rw [e']; exact rep_store (rep_one Rp) ha hq' Wt (by simpa [arV] using h2) (by simp [arV, gA_sA, List.map_set]) (fun q' y _ h => arV_sA s q _ _ q' h) rfl rfl), by rw [e']; exact Fm.wr Wt (by omega) (by have := Nat.mul_le_mul_left (cK P.2 + 1) hp; simp only [cK] at *; omega), Fr.snoc X' Nl (by have := ok.2.2.2.2.2.2.2.2.2.2.1; omega), by rw [e', Wt.size]; exact hs, u1, u2, c1, c2, hN⟩, fun target r => ?_⟩
    rw [show cV α b (.int x :: .int j :: .ref (q + 2) :: st) = .int x :: .int j :: .ref (b + (q + 1)) :: cV α b st from rfl, show b + (q + 1) = b + 1 + q by omega]
    exact stp target r) g
theorem go_lastore {q : Nat} {j : Int32} {nm ds : String} {cap : Nat} {l' : List Int64} (ha : (cA P.2)[q]? = some (nm, ds, .long, cap)) (hq : Nat.blt q k = true) (hp : 0 < mN M) (hx : Jvm.AM.st (gB s q) j u = some l') (d : decode (mB M) pc = .ok (.lastore, 1)) (g : Go P M (pc + 1) L st (none, [(k, sB s q l')]) out) : Go P M pc L (.long u :: .int j :: .ref (q + 2) :: st) (none, [(k, s)]) out :=
  go_ch (fun l Z a0 p e R s1 m args below meth c α b n0 h0 uC uS ok hl T locs cells slots I => by
    have hq' : q < k := by simpa [Nat.blt_eq] using hq
    have hqK := get_lt ha
    obtain ⟨X, Rp, Fm, Nl, hs, u1, u2, c1, c2, hN⟩ := I
    obtain ⟨cl, A, ec⟩ := (rep_one Rp).2.2.2 q _ ha hq'
    obtain ⟨h1, h2, rfl⟩ := st_some hx
    have hin := in_of ec h1 (by simpa [arV] using h2)
    obtain ⟨T', h', X', e', Wt, stp⟩ := stJ X ok.2.2.1 ok.2.2.2.1 rfl A (x := u) hin (g := mkF m pc (cL α b L) (.long u :: .int j :: .ref (b + 1 + q) :: cV α b st)) rfl rfl (hb ok.2.2.2.2.2.1 d)
    refine ⟨T', _, cells, slots, ⟨X', rep_mk (by rw [e']; exact rep_store (rep_one Rp) ha hq' Wt (by simpa [arV] using h2) (by simp [arV, gB_sB, List.map_set]) (fun q' y _ h => arV_sB s q _ _ q' h) rfl rfl), by rw [e']; exact Fm.wr Wt (by omega) (by have := Nat.mul_le_mul_left (cK P.2 + 1) hp; simp only [cK] at *; omega), Fr.snoc X' Nl (by have := ok.2.2.2.2.2.2.2.2.2.2.1; omega), by rw [e', Wt.size]; exact hs, u1, u2, c1, c2, hN⟩, fun target r => ?_⟩
    rw [show cV α b (.long u :: .int j :: .ref (q + 2) :: st) = .long u :: .int j :: .ref (b + (q + 1)) :: cV α b st from rfl, show b + (q + 1) = b + 1 + q by omega]
    exact stp target r) g
theorem go_bastore {q : Nat} {j : Int32} {nm ds : String} {ty : FieldType} {cap : Nat} {l' : List Int32} (ha : (cA P.2)[q]? = some (nm, ds, ty, cap)) (hty : ty = .boolean ∨ ty = .byte) (hq : Nat.blt q k = true) (hp : 0 < mN M) (hv : v = nar ty x) (hx : Jvm.AM.st (gA s q) j v = some l') (d : decode (mB M) pc = .ok (.bastore, 1)) (g : Go P M (pc + 1) L st (none, [(k, sA s q l')]) out) : Go P M pc L (.int x :: .int j :: .ref (q + 2) :: st) (none, [(k, s)]) out :=
  go_ch (fun l Z a0 p e R s1 m args below meth c α b n0 h0 uC uS ok hl T locs cells slots I => by
    have hq' : q < k := by simpa [Nat.blt_eq] using hq
    have hqK := get_lt ha
    obtain ⟨X, Rp, Fm, Nl, hs, u1, u2, c1, c2, hN⟩ := I
    obtain ⟨cl, A, ec⟩ := (rep_one Rp).2.2.2 q _ ha hq'
    obtain ⟨h1, h2, rfl⟩ := st_some hx
    subst hv
    have hlen : j.toNatClampNeg < (arV ty s q).length := by rcases hty with rfl | rfl <;> simpa [arV] using h2
    have hset : arV ty (sA s q ((gA s q).set j.toNatClampNeg (nar ty x))) q = (arV ty s q).set j.toNatClampNeg (.int (nar ty x)) := by rcases hty with rfl | rfl <;> simp [arV, gA_sA, List.map_set]
    have hin := in_of ec h1 hlen
    obtain ⟨T', h', X', e', Wt, stp⟩ : ∃ T' h', Stand p l e R s1 m args below meth c T' (locs ++ [⟨b + 1 + q, j.toNatClampNeg⟩]) cells slots ∧ T'.heap = h' ∧ Wr T.heap h' (b + 1 + q) j.toNatClampNeg (.int (nar ty x)) ∧ ∀ target, Steps p.tables e below (T'.setTop (mkF m (pc + 1) (cL α b L) (cV α b st))) target → Steps p.tables e below (T.setTop (mkF m pc (cL α b L) (.int x :: .int j :: .ref (b + 1 + q) :: cV α b st))) target := by
      rcases hty with rfl | rfl
      · exact stZ X ok.2.2.1 ok.2.2.2.1 rfl A (x := x) hin (g := mkF m pc (cL α b L) (.int x :: .int j :: .ref (b + 1 + q) :: cV α b st)) rfl rfl (hb ok.2.2.2.2.2.1 d)
      · exact stB X ok.2.2.1 ok.2.2.2.1 rfl A (x := x) hin (g := mkF m pc (cL α b L) (.int x :: .int j :: .ref (b + 1 + q) :: cV α b st)) rfl rfl (hb ok.2.2.2.2.2.1 d)
    refine ⟨T', _, cells, slots, ⟨X', rep_mk (by rw [e']; exact rep_store (rep_one Rp) ha hq' Wt hlen hset (fun q' y _ h => arV_sA s q _ _ q' h) rfl rfl), by rw [e']; exact Fm.wr Wt (by omega) (by have := Nat.mul_le_mul_left (cK P.2 + 1) hp; simp only [cK] at *; omega), Fr.snoc X' Nl (by have := ok.2.2.2.2.2.2.2.2.2.2.1; omega), by rw [e', Wt.size]; exact hs, u1, u2, c1, c2, hN⟩, fun target r => ?_⟩
    rw [show cV α b (.int x :: .int j :: .ref (q + 2) :: st) = .int x :: .int j :: .ref (b + (q + 1)) :: cV α b st from rfl, show b + (q + 1) = b + 1 + q by omega]
    exact stp target r) g
/-! ## 5. A method as a whole; calls -/
def Call (P : PI) (M : Meth) (as : List Value) (w : W) (out : Option Value × W) : Prop :=
  ∀ (l : Launch) (Z : State) (a0 : Array Value) (ws : List Jvm.Cond) (α b n0 : Nat) (h0 : Heap), (∀ d ∈ P.1, d.before a0 Z = true) → Facts Z a0 P.2 → n0 ≤ b → RepW Z P.2 α b w h0 → w.2.length ≤ mN M → (mTop M = true → h0.size = b + usedC w ∧ usedC w = mUC M ∧ usedS P.2 w = mUS M) →
    MetFree l (mY M) (head1 (Jvm.Cond.code (mY M) (mB M) (mL M) (mT M) :: ws) (mR M)) (fun a U => a = (cV α b as).toArray ∧ Z.Warmed39 U.vm ∧ U.heap = h0) (fun _ _ _ _ _ => True)
      (fun _ U o U' => ∃ v L, o = .returned v ∧ (v = out.1.map (con α b) ∧ Fr n0 L ∧ RepW Z P.2 α b out.2 U'.heap ∧ Frm b (b + (cK P.2 + 1) * mN M) h0 U'.heap ∧ ∃ k, U'.heap.size = h0.size + k ∧ k + usedC w = usedC out.2) ∧ FrameEnd U o U' L (mR M).cells (mR M).slots)
theorem call_of_go {as : List Value} (hpl : plainName (mY M).cls = true) (hlen : (entryL as (mL M)).length = mL M) (hret : mT M = none → out.1 = none) (g : Go P M 0 (entryL as (mL M)) [] w out) : Call P M as w out := by
  intro l Z a0 ws α b n0 h0 hw fa hn0 Rp hN htop
  refine MetFree.of_bodySF (plainFor_of_name hpl) hisR ?_
  intro p e s m args below meth c s₁ Bd hml0 hP hK
  obtain ⟨rfl, hZ, hh⟩ := hP
  have X0 : Stand p l e (mR M) s m (cV α b as).toArray below meth c s₁ [] 0 0 := Stand.of_body Bd
  have e0 : s₁.heap = h0 := by rw [← hh, Bd.state]; rfl
  obtain ⟨T', L', c', n', I', fin⟩ := g hlen l Z a0 p e (mR M) s m (cV α b as).toArray below meth c α b n0 h0 (usedC w) (usedS P.2 w) ⟨hw, fa, Bd.exec, hZ, findClass_of_methodNamed Bd.named, Bd.bytes, hml0, Bd.returns, (name_of_methodNamed Bd.named Bd.method).1, rfl, hn0, htop, by rw [hh]⟩ s₁ [] 0 0 ⟨X0, by rw [e0]; exact Rp, by rw [e0]; exact Frm.refl _ _ _, Fr.nil _, by rw [e0]; rfl, by simp, by simp, Nat.zero_le _, Nat.zero_le _, hN⟩
  obtain ⟨X', Rp', Fm', Nl', hs', u1', u2', c1', c2', hN'⟩ := I'
  obtain ⟨fs, hr, hrun, hended, hW, hsame⟩ := X'.leave (v := out.1.map (con α b)) (fun h => by rw [Bd.returns] at h; rw [hret h]; rfl)
  refine ⟨_, _, ?_, hrun, hended, _, _, rfl, ⟨rfl, Nl', Rp', Fm', c', hs', u1'⟩, ⟨_, rfl⟩, hW, hsame.mono c1' c2'⟩
  have q := fin fs hr
  rw [← entry_locals] at q
  exact q
def nr : Value → Bool
  | .ref _ => false
  | _ => true
theorem con_nr {α b : Nat} {v : Value} (h : nr v = true) : con α b v = v := by
  cases v <;> first | rfl | cases h
theorem cV_nr {α b : Nat} {l : List Value} (h : l.all nr = true) : cV α b l = l := by
  have : ∀ x ∈ l, con α b x = x := fun x hx => con_nr (List.all_eq_true.mp h x hx)
  unfold cV
  exact (List.map_congr_left this).trans (List.map_id _)
theorem rep_obj {Z : State} {ci : CI} {α b : Nat} {h : Heap} {i : Nat} (F : RepW Z ci α b w h) (ho : w.2[i]? = some o) : RepW Z ci 0 (b + (cK ci + 1) * i) (none, [o]) h := rep_mk (F.2 i o ho)
theorem rep_back {Z : State} {ci : CI} {α α' b : Nat} {h h' : Heap} {i : Nat} (F : RepW Z ci α b w h) (ho : w.2[i]? = some o) (G : RepW Z ci α' (b + (cK ci + 1) * i) (none, [o']) h') (Fm : Frm (b + (cK ci + 1) * i) (b + (cK ci + 1) * i + (cK ci + 1) * 1) h h') : RepW Z ci α b (w.1, w.2.set i o') h' := by
  refine ⟨fun l hl => ⟨((F.1 l hl).1).frm fun c q => Fm _ _ q (Or.inl ?_), (F.1 l hl).2⟩, fun j oj hj => ?_⟩
  · have := (F.1 l hl).2; exact Nat.lt_of_lt_of_le this (Nat.le_add_right _ _)
  · by_cases e : j = i
    · subst e
      rw [show (w.1, w.2.set j o').2 = w.2.set j o' from rfl, List.getElem?_set_self (get_lt ho)] at hj
      cases hj
      exact rep_one G
    · rw [show (w.1, w.2.set i o').2 = w.2.set i o' from rfl, List.getElem?_set_ne (Ne.symm e)] at hj
      refine (F.2 j oj hj).frm fun x c q1 q2 q3 => Fm _ _ q3 ?_
      rcases Nat.lt_or_gt_of_ne e with q | q
      · have := Nat.mul_le_mul_left (cK ci + 1) q
        rw [Nat.mul_succ] at this; omega
      · have := Nat.mul_le_mul_left (cK ci + 1) q
        rw [Nat.mul_succ] at this; omega
theorem sum_set {A : Type} (f : A → Nat) {a a' : A} : ∀ {l : List A} {i : Nat}, l[i]? = some a → ((l.set i a').map f).sum + f a = (l.map f).sum + f a'
  | [], i, h => by simp at h
  | b :: r, 0, h => by simp at h; subst h; simp; omega
  | b :: r, i + 1, h => by
    simp only [List.getElem?_cons_succ] at h
    have := sum_set f (a' := a') h
    simp only [List.set_cons_succ, List.map_cons, List.sum_cons]; omega
def CQ (ci : CI) (Z : State) (α b n0 : Nat) (h0 : Heap) (N : Nat) (w : W) (out : Option Value × W) (v : Option Value) (hp : Heap) (L : List Loc) : Prop := v = out.1.map (con α b) ∧ Fr n0 L ∧ RepW Z ci α b out.2 hp ∧ Frm b (b + (cK ci + 1) * N) h0 hp ∧ ∃ k, hp.size = h0.size + k ∧ k + usedC w = usedC out.2
/-- what a callee that makes nothing must fit into -/
def Small (M M' : Meth) (rest : List Value) : Prop := (mR M').cells = 0 ∧ (mR M').slots = 0 ∧ mTop M' = false ∧ Nat.ble ((mR M').frames + 1) (mR M).frames = true ∧ Nat.ble ((rest.map fun v => v.category).sum + (mL M' + 11) + (mR M').locals) (mR M).locals = true
theorem ret_st {α b b' : Nat} {r : Option Value} {rest : List Value} (hr : r.all nr = true) : (r.map (con 0 b')).toList ++ cV α b rest = cV α b (r.toList ++ rest) := by
  cases r with
  | none => rfl
  | some v => simp only [Option.map_some, Option.toList_some, cV, List.cons_append, List.nil_append, List.map_cons]; rw [con_nr (show nr v = true from hr), con_nr (show nr v = true from hr)]
theorem inv_obj {l : Launch} {Z : State} {p : Program} {e : Env} {R : Room} {s : State} {m : MethodId} {args : Array Value} {below : List Frame} {meth : Method} {c : Code} {α b n0 : Nat} {h0 : Heap} {uC uS : Nat} {T T2 : State} {locs L2 : List Loc} {cells slots rc rs i : Nat}
    (I : Inv P M l Z p e R s m args below meth c α b n0 h0 uC uS w T locs cells slots) (ho : w.2[i]? = some o) (X2 : Stand p l e R s m args below meth c T2 (locs ++ L2) (cells + rc) (slots + rs))
    (N2 : Fr n0 L2) (R2 : RepW Z P.2 0 (b + (cK P.2 + 1) * i) (none, [o']) T2.heap) (F2 : Frm (b + (cK P.2 + 1) * i) (b + (cK P.2 + 1) * i + (cK P.2 + 1) * 1) T.heap T2.heap) (k2 : ∃ k, T2.heap.size = T.heap.size + k ∧ k + usedC (none, [o]) = usedC (none, [o']))
    (hC : o'.1 = o.1 + rc) (hS : usedS P.2 (none, [o']) = usedS P.2 (none, [o]) + rs) (q1 : cells + rc ≤ R.cells) (q2 : slots + rs ≤ R.slots) : Inv P M l Z p e R s m args below meth c α b n0 h0 uC uS (w.1, w.2.set i o') T2 (locs ++ L2) (cells + rc) (slots + rs) := by
  obtain ⟨X, Rp, Fm, Nl, hs, u1, u2, c1, c2, hN⟩ := I
  obtain ⟨k, k1, k3⟩ := k2
  have hi := get_lt ho
  have a1 := sum_set (fun o : Nat × S => 1 + o.1) (a' := o') ho
  have a2 := sum_set (fun o : Nat × S => cF P.2 + (((cA P.2).take o.1).map fun x => x.2.2.2).sum) (a' := o') ho
  have hle : (cK P.2 + 1) * (i + 1) ≤ (cK P.2 + 1) * mN M := Nat.mul_le_mul_left _ (by omega)
  rw [Nat.mul_succ] at hle
  refine ⟨X2, rep_back Rp ho R2 F2, Fm.trans (F2.wide (Nat.le_add_right _ _) (by omega)), Nl.app N2, ?_, ?_, ?_, q1, q2, by simpa using hN⟩
  · simp only [usedC, List.map_cons, List.map_nil, List.sum_cons, List.sum_nil] at k3; omega
  · simp only [usedC] at u1 ⊢; omega
  · simp only [usedS, List.map_cons, List.map_nil, List.sum_cons, List.sum_nil] at u2 hS ⊢; omega
def LinkV (P : PI) (own : String) (idx : Nat) (M' : Meth) : Prop := Jvm.Cond.methodLink own idx (mY M') ∈ P.1 ∧ Jvm.Cond.declares (mY M') ∈ P.1 ∧ Jvm.Cond.selects (cN P.2) (mY M') (mY M') ∈ P.1 ∧ Jvm.Cond.instanceMethod (mY M') ∈ P.1 ∧ Jvm.Cond.code (mY M') (mB M') (mL M') (mT M') ∈ P.1 ∧ (mY M').cls = cN P.2 ∧ mN M' = 1
def LinkP (P : PI) (own : String) (idx : Nat) (M' : Meth) : Prop := Jvm.Cond.methodLink own idx (mY M') ∈ P.1 ∧ Jvm.Cond.instanceMethod (mY M') ∈ P.1 ∧ Jvm.Cond.privateMethod (mY M') ∈ P.1 ∧ Jvm.Cond.code (mY M') (mB M') (mL M') (mT M') ∈ P.1 ∧ (mY M').cls = cN P.2 ∧ mN M' = 1
def LinkS (P : PI) (own : String) (idx : Nat) (M' : Meth) : Prop := Jvm.Cond.methodLink own idx (mY M') ∈ P.1 ∧ Jvm.Cond.static (mY M') ∈ P.1 ∧ Jvm.Cond.initialized (mY M').cls ∈ P.1 ∧ Jvm.Cond.code (mY M') (mB M') (mL M') (mT M') ∈ P.1 ∧ ((mY M').cls ≠ "java/lang/invoke/MethodHandle" ∧ (mY M').cls ≠ "java/lang/invoke/VarHandle")
def LinkI (P : PI) (own : String) (idx : Nat) (M' : Meth) : Prop := Jvm.Cond.methodLink own idx (mY M') ∈ P.1 ∧ Jvm.Cond.instanceMethod (mY M') ∈ P.1 ∧ Jvm.Cond.code (mY M') (mB M') (mL M') (mT M') ∈ P.1 ∧ (mY M').cls = cN P.2 ∧ mN M' = 1 ∧ mT M' = none ∧ (mY M').name = "<init>"
variable {M' : Meth} {i idx id : Nat} {as rest : List Value} {rv : Option Value} {ps : List FieldType} {rt : Option FieldType}
theorem cV_call {α b : Nat} {jd : Nat} (hnr : as.all nr = true) (hst : st = as.reverse ++ .ref (jd + 1) :: rest) : cV α b st = as.reverse ++ .ref (b + jd) :: cV α b rest := by
  subst hst
  have h1 : cV α b as.reverse = as.reverse := cV_nr (by rw [List.all_reverse]; exact hnr)
  unfold cV at h1 ⊢
  rw [List.map_append, h1]; rfl
theorem go_virt (lk : LinkV P (mY M).cls idx M') (pd : parseMethodDescriptor (mY M').desc = some ⟨ps, rt⟩) (hn : as.length = ps.length) (hid : id = (cK P.2 + 1) * i + 1) (hst : st = as.reverse ++ .ref id :: rest) (hnr : as.all nr = true) (hrr : rv.all nr = true) (ho : w.2[i]? = some o) (hw' : w' = (w.1, w.2.set i o')) (hC : o'.1 = o.1) (sm : Small M M' rest)
    (d : decode (mB M) pc = .ok (.invokevirtual idx, 3)) (cl : Call P M' (.ref 1 :: as) (none, [o]) (rv, (none, [o']))) (g : Go P M (pc + 3) L (rv.toList ++ rest) w' out) : Go P M pc L st w out :=
  go_ch (fun l Z a0 p e R s1 m args below meth c α b n0 h0 uC uS ok hl T locs cells slots I => by
    subst hw' hid
    obtain ⟨hw, fa, hx, hZ, hown, hc, hml, hret, hnm, hR, hn0, htop, hsz⟩ := ok
    obtain ⟨k1, k2, k3, k4, k5, k6, k7⟩ := lk
    obtain ⟨z1, z2, z3, z4, z5⟩ := sm
    have C := cl l Z a0 [] 0 (b + (cK P.2 + 1) * i) n0 T.heap hw fa (Nat.le_trans hn0 (Nat.le_add_right _ _)) (rep_obj I.2.1 ho) (by rw [k7]; exact Nat.le_refl _) (fun q => by rw [z3] at q; cases q)
    have Bk := backOf (Q := CQ P.2 Z 0 (b + (cK P.2 + 1) * i) n0 T.heap (mN M') (none, [o]) (rv, (none, [o']))) (R := R) (p := p) (e := e) (below := below) (s := s1) (args := args) (len := 3) (W := (rest.map fun v => v.category).sum) C hZ (hw _ k5) (by rw [k6]; exact fa.2.1) (by rw [hR]; exact Nat.le_of_ble_eq_true z4) (by rw [hR]; exact Nat.le_of_ble_eq_true z5)
    have E := (I.2.1.2 i o ho).1
    obtain ⟨cB, kB, q1, q2, q3⟩ := isOf (T := T) hZ rfl E
    obtain ⟨v, vm1, ⟨T2, Lx, kx, nx⟩, -, X2, ⟨L2, hQ, l2, y2, n2⟩, stp⟩ := I.1.virtualBack hx (y := mY M') (z := mY M') hown (mvT hZ (hw _ k1)) (mvT hZ (hw _ k2)) (notFace_of_selects (args := #[]) (mvT hZ (hw _ k3))) (mvT hZ (hw _ k3)) (mvT hZ (hw _ k4)) (by rw [k6]; exact fa.2.2.2.2.2.2) Bk q1 q3 (g := mkF m pc (cL α b L) (cV α b st)) rfl (by show (cL α b L).size = c.maxLocals; rw [cL_size, hl, hml]) (Steps.refl _) (argsL := as) (rest := cV α b rest) (lenOf pd hn) (cV_call hnr hst)
      (by show 2 * 0 + _ ≤ _; rw [cV_sum]; exact Nat.le_of_eq (Nat.zero_add _)) (hb hc d) (fun _ _ => ⟨by rw [show (cV 0 (b + (cK P.2 + 1) * i) (.ref 1 :: as)) = .ref (b + (cK P.2 + 1) * i) :: cV 0 (b + (cK P.2 + 1) * i) as from rfl, cV_nr hnr], rfl, by rw [z1]; exact I.2.2.2.2.2.2.2.1, by rw [z2]; exact I.2.2.2.2.2.2.2.2.1⟩)
    dsimp only [Pt.U, Pt.locs, Pt.cells, Pt.slots] at X2 l2 y2 n2 stp hQ
    subst l2 y2 n2
    obtain ⟨rfl, N2, R2, F2, k8⟩ := hQ
    rw [k7] at F2
    refine ⟨T2, _, _, _, inv_obj I ho X2 N2 R2 F2 k8 (by rw [z1]; exact hC) (by rw [z2]; simp [usedS, hC]) (by rw [z1]; exact I.2.2.2.2.2.2.2.1) (by rw [z2]; exact I.2.2.2.2.2.2.2.2.1), fun target r => stp.trans ?_⟩
    rw [← ret_st (b' := b + (cK P.2 + 1) * i) hrr] at r
    exact r) g
theorem go_priv (lk : LinkP P (mY M).cls idx M') (pd : parseMethodDescriptor (mY M').desc = some ⟨ps, rt⟩) (hn : as.length = ps.length) (hid : id = (cK P.2 + 1) * i + 1) (hst : st = as.reverse ++ .ref id :: rest) (hnr : as.all nr = true) (hrr : rv.all nr = true) (ho : w.2[i]? = some o) (hw' : w' = (w.1, w.2.set i o')) (hC : o'.1 = o.1) (sm : Small M M' rest)
    (d : decode (mB M) pc = .ok (.invokevirtual idx, 3)) (cl : Call P M' (.ref 1 :: as) (none, [o]) (rv, (none, [o']))) (g : Go P M (pc + 3) L (rv.toList ++ rest) w' out) : Go P M pc L st w out :=
  go_ch (fun l Z a0 p e R s1 m args below meth c α b n0 h0 uC uS ok hl T locs cells slots I => by
    subst hw' hid
    obtain ⟨hw, fa, hx, hZ, hown, hc, hml, hret, hnm, hR, hn0, htop, hsz⟩ := ok
    obtain ⟨k1, k4, k3, k5, k6, k7⟩ := lk
    obtain ⟨z1, z2, z3, z4, z5⟩ := sm
    have C := cl l Z a0 [] 0 (b + (cK P.2 + 1) * i) n0 T.heap hw fa (Nat.le_trans hn0 (Nat.le_add_right _ _)) (rep_obj I.2.1 ho) (by rw [k7]; exact Nat.le_refl _) (fun q => by rw [z3] at q; cases q)
    have Bk := backOf (Q := CQ P.2 Z 0 (b + (cK P.2 + 1) * i) n0 T.heap (mN M') (none, [o]) (rv, (none, [o']))) (R := R) (p := p) (e := e) (below := below) (s := s1) (args := args) (len := 3) (W := (rest.map fun v => v.category).sum) C hZ (hw _ k5) (by rw [k6]; exact fa.2.1) (by rw [hR]; exact Nat.le_of_ble_eq_true z4) (by rw [hR]; exact Nat.le_of_ble_eq_true z5)
    obtain ⟨cell, q1, q2⟩ := (I.2.1.2 i o ho).1.cell
    have hy : (mY M').cls ≠ "java/lang/invoke/MethodHandle" ∧ (mY M').cls ≠ "java/lang/invoke/VarHandle" := by rw [k6]; exact fa.2.2.2.2.2.2
    have hpriv : s1.PrivateAt (mY M') := Cond.privateMethod_at (mvP hZ (hw _ k3) (args := #[]))
    have hin : (Jvm.Cond.instanceMethod (mY M')).before args s1 = true := mvT hZ (hw _ k4)
    obtain ⟨c2, kk, i1, i2, i3, i4, -⟩ := Cond.instantiable_spec fa.1
    obtain ⟨k', j1, j2⟩ := hZ.alike.2.2 _ _ i2
    have hsel : (Jvm.Cond.selects (mY M').cls (mY M') (mY M')).before args s1 = true := selects_self_of_private (c := c2) (k := k') (by rw [k6, hZ.alike.findClass]; exact i1) j1 (by
      have : kk.isInterface = false := by simp only [Bool.or_eq_false_iff] at i4; exact i4.1
      rw [j2]; exact this) hpriv hin hy
    obtain ⟨v, vm1, ⟨T2, Lx, kx, nx⟩, -, X2, ⟨L2, hQ, l2, y2, n2⟩, stp⟩ := I.1.privateBack hx (y := mY M') hown (mvT hZ (hw _ k1)) hin hsel hpriv (mvT hZ (hw _ k5)) hy Bk (g := mkF m pc (cL α b L) (cV α b st)) rfl (by show (cL α b L).size = c.maxLocals; rw [cL_size, hl, hml]) (Steps.refl _) (a := b + (cK P.2 + 1) * i) q1 q2 (argsL := as) (rest := cV α b rest) (lenOf pd hn) (cV_call hnr hst)
      (by show 2 * 0 + _ ≤ _; rw [cV_sum]; exact Nat.le_of_eq (Nat.zero_add _)) (hb hc d) (fun _ _ => ⟨by rw [show (cV 0 (b + (cK P.2 + 1) * i) (.ref 1 :: as)) = .ref (b + (cK P.2 + 1) * i) :: cV 0 (b + (cK P.2 + 1) * i) as from rfl, cV_nr hnr], rfl, by rw [z1]; exact I.2.2.2.2.2.2.2.1, by rw [z2]; exact I.2.2.2.2.2.2.2.2.1⟩)
    dsimp only [Pt.U, Pt.locs, Pt.cells, Pt.slots] at X2 l2 y2 n2 stp hQ
    subst l2 y2 n2
    obtain ⟨rfl, N2, R2, F2, k8⟩ := hQ
    rw [k7] at F2
    refine ⟨T2, _, _, _, inv_obj I ho X2 N2 R2 F2 k8 (by rw [z1]; exact hC) (by rw [z2]; simp [usedS, hC]) (by rw [z1]; exact I.2.2.2.2.2.2.2.1) (by rw [z2]; exact I.2.2.2.2.2.2.2.2.1), fun target r => stp.trans ?_⟩
    rw [← ret_st (b' := b + (cK P.2 + 1) * i) hrr] at r
    exact r) g
theorem go_stat (lk : LinkS P (mY M).cls idx M') (pd : parseMethodDescriptor (mY M').desc = some ⟨ps, rt⟩) (hn : as.length = ps.length) (hst : st = as.reverse ++ rest) (hN' : mN M' ≤ mN M ∧ w.2.length ≤ mN M') (hu : usedC w' = usedC w ∧ usedS P.2 w' = usedS P.2 w ∧ w'.2.length = w.2.length) (sm : Small M M' rest)
    (d : decode (mB M) pc = .ok (.invokestatic idx, 3)) (cl : Call P M' as w (rv, w')) (g : Go P M (pc + 3) L (rv.toList ++ rest) w' out) : Go P M pc L st w out :=
  go_ch (fun l Z a0 p e R s1 m args below meth c α b n0 h0 uC uS ok hl T locs cells slots I => by
    obtain ⟨hw, fa, hx, hZ, hown, hc, hml, hret, hnm, hR, hn0, htop, hsz⟩ := ok
    obtain ⟨k1, k2, k3, k5, k6⟩ := lk
    obtain ⟨z1, z2, z3, z4, z5⟩ := sm
    have C := cl l Z a0 [] α b n0 T.heap hw fa hn0 I.2.1 hN'.2 (fun q => by rw [z3] at q; cases q)
    have Bk := backOf (Q := CQ P.2 Z α b n0 T.heap (mN M') w (rv, w')) (R := R) (p := p) (e := e) (below := below) (s := s1) (args := args) (len := 3) (W := (rest.map fun v => v.category).sum) C hZ (hw _ k5) (hw _ k3) (by rw [hR]; exact Nat.le_of_ble_eq_true z4) (by rw [hR]; exact Nat.le_of_ble_eq_true z5)
    obtain ⟨v, vm1, ⟨T2, Lx, kx, nx⟩, -, X2, ⟨L2, hQ, l2, y2, n2⟩, stp⟩ := Jvm.LawKit.callS I.1 hx (y := mY M') hown (mvT hZ (hw _ k1)) (mvT hZ (hw _ k2)) (mvT hZ (hw _ k3)) (mvT hZ (hw _ k5)) k6 Bk (g := mkF m pc (cL α b L) (cV α b st)) rfl (by show (cL α b L).size = c.maxLocals; rw [cL_size, hl, hml]) (argsL := cV α b as) (rest := cV α b rest) (lenOf pd (by simpa [cV] using hn)) (by subst hst; simp [cV])
      (by show 2 * 0 + _ ≤ _; rw [cV_sum]; exact Nat.le_of_eq (Nat.zero_add _)) (hb hc d) (fun _ _ => ⟨rfl, rfl, by rw [z1]; exact I.2.2.2.2.2.2.2.1, by rw [z2]; exact I.2.2.2.2.2.2.2.2.1⟩)
    dsimp only [Pt.U, Pt.locs, Pt.cells, Pt.slots] at X2 l2 y2 n2 stp hQ
    subst l2 y2 n2
    obtain ⟨rfl, N2, R2, F2, k, k8, k9⟩ := hQ
    obtain ⟨X, Rp, Fm, Nl, hs, u1, u2, c1, c2, hN⟩ := I
    rw [z1, z2] at X2
    refine ⟨T2, _, _, _, ⟨X2, R2, Fm.trans (F2.wide (Nat.le_refl _) (by have := Nat.mul_le_mul_left (cK P.2 + 1) hN'.1; omega)), Nl.app N2, ?_, ?_, ?_, c1, c2, by rw [hu.2.2]; exact hN⟩, fun target r => stp target ?_⟩
    · rw [k8]; have := hu.1; simp only at k9; omega
    · rw [hu.1]; exact u1
    · rw [hu.2.1]; exact u2
    · have e1 : cV α b (rv.toList ++ rest) = (rv.map (con α b)).toList ++ cV α b rest := by cases rv <;> rfl
      rw [e1] at r; exact r) g
/-- a constructor, by its contract -/
theorem go_init {k2 : Nat} {s2 : S} (lk : LinkI P (mY M).cls idx M') (pd : parseMethodDescriptor (mY M').desc = some ⟨ps, rt⟩) (hn : as.length = ps.length) (hid : id = (cK P.2 + 1) * i + 1) (hst : st = as.reverse ++ .ref id :: rest) (hnr : as.all nr = true) (ho : w.2[i]? = some (k, s)) (hw' : w' = (w.1, w.2.set i (k2, s2)))
    (hC : k2 = k + (mR M').cells) (hS : usedS P.2 (none, [(k2, s2)]) = usedS P.2 (none, [(k, s)]) + (mR M').slots) (htM : mTop M = true) (hR1 : Nat.ble (usedC w + (mR M').cells) ((mR M).cells + mUC M) = true) (hR2 : Nat.ble (usedS P.2 w + (mR M').slots) ((mR M).slots + mUS M) = true)
    (hq : usedC w = (cK P.2 + 1) * i + usedC (none, [(k, s)]) ∧ usedC (none, [(k, s)]) = mUC M' ∧ usedS P.2 (none, [(k, s)]) = mUS M') (sm : Nat.ble ((mR M').frames + 1) (mR M).frames = true ∧ Nat.ble ((rest.map fun v => v.category).sum + (mL M' + 11) + (mR M').locals) (mR M).locals = true)
    (d : decode (mB M) pc = .ok (.invokespecial idx, 3)) (cl : Call P M' (.ref 1 :: as) (none, [(k, s)]) (none, (none, [(k2, s2)]))) (g : Go P M (pc + 3) L rest w' out) : Go P M pc L st w out :=
  go_ch (fun l Z a0 p e R s1 m args below meth c α b n0 h0 uC uS ok hl T locs cells slots I => by
    subst hw' hid
    obtain ⟨hw, fa, hx, hZ, hown, hc, hml, hret, hnm, hR, hn0, htop, hsz⟩ := ok
    obtain ⟨k1, k4, k5, k6, k7, k9, k10⟩ := lk
    obtain ⟨z4, z5⟩ := sm
    obtain ⟨t1, t2, t3⟩ := htop htM
    have Ic := I.2.2.2.2.2.1
    have Is := I.2.2.2.2.2.2.1
    have b1 : cells + (mR M').cells ≤ R.cells := by have := Nat.le_of_ble_eq_true hR1; rw [hR]; omega
    have b2 : slots + (mR M').slots ≤ R.slots := by have := Nat.le_of_ble_eq_true hR2; rw [hR]; omega
    have C := cl l Z a0 [] 0 (b + (cK P.2 + 1) * i) n0 T.heap hw fa (Nat.le_trans hn0 (Nat.le_add_right _ _)) (rep_obj I.2.1 ho) (by rw [k7]; exact Nat.le_refl _) (fun _ => ⟨by rw [I.2.2.2.2.1]; have := hq.1; omega, hq.2.1, hq.2.2⟩)
    have Bk := backOf (Q := CQ P.2 Z 0 (b + (cK P.2 + 1) * i) n0 T.heap (mN M') (none, [(k, s)]) (none, (none, [(k2, s2)]))) (R := R) (p := p) (e := e) (below := below) (s := s1) (args := args) (len := 3) (W := (rest.map fun v => v.category).sum) C hZ (hw _ k5) (by rw [k6]; exact fa.2.1) (by rw [hR]; exact Nat.le_of_ble_eq_true z4) (by rw [hR]; exact Nat.le_of_ble_eq_true z5)
    have hy : (mY M').cls ≠ "java/lang/invoke/MethodHandle" ∧ (mY M').cls ≠ "java/lang/invoke/VarHandle" := by rw [k6]; exact fa.2.2.2.2.2.2
    have hcd := hw _ k5
    rw [k9] at hcd
    obtain ⟨v, vm1, ⟨T2, Lx, kx, nx⟩, -, X2, ⟨L2, hQ, l2, y2, n2⟩, stp⟩ := I.1.specialBack hx (y := mY M') k10 hown (mvT hZ (hw _ k1)) (mvT hZ (hw _ k4)) (mvT hZ hcd) hy Bk (g := mkF m pc (cL α b L) (cV α b st)) rfl (by show (cL α b L).size = c.maxLocals; rw [cL_size, hl, hml]) (Steps.refl _) (a := b + (cK P.2 + 1) * i) (argsL := as) (rest := cV α b rest) (lenOf pd hn) (cV_call hnr hst)
      (by show 2 * 0 + _ ≤ _; rw [cV_sum]; exact Nat.le_of_eq (Nat.zero_add _)) (hb hc d) (fun _ _ => ⟨by rw [show (cV 0 (b + (cK P.2 + 1) * i) (.ref 1 :: as)) = .ref (b + (cK P.2 + 1) * i) :: cV 0 (b + (cK P.2 + 1) * i) as from rfl, cV_nr hnr], rfl, b1, b2⟩)
    dsimp only [Pt.U, Pt.locs, Pt.cells, Pt.slots] at X2 l2 y2 n2 stp hQ
    subst l2 y2 n2
    obtain ⟨rfl, N2, R2, F2, k8⟩ := hQ
    rw [k7] at F2
    exact ⟨T2, _, _, _, inv_obj I ho X2 N2 R2 F2 k8 hC hS b1 b2, fun target r => stp.trans r⟩) g
/-- Object's constructor -/
theorem go_objinit {a : Nat} (k1 : Jvm.Cond.methodLink (mY M).cls idx Lib.objectInit ∈ P.1) (k2 : Jvm.Cond.instanceMethod Lib.objectInit ∈ P.1) (k3 : Jvm.Cond.code Lib.objectInit ⟨#[0xb1]⟩ 1 none ∈ P.1) (z4 : Nat.ble 1 (mR M).frames = true) (z5 : Nat.ble ((rest.map fun v => v.category).sum + 12) (mR M).locals = true)
    (d : decode (mB M) pc = .ok (.invokespecial idx, 3)) (g : Go P M (pc + 3) L rest w out) : Go P M pc L (.ref (a + 1) :: rest) w out :=
  go_ch (fun l Z a0 p e R s1 m args below meth c α b n0 h0 uC uS ok hl T locs cells slots I => by
    obtain ⟨hw, fa, hx, hZ, hown, hc, hml, hret, hnm, hR, hn0, htop, hsz⟩ := ok
    obtain ⟨X, Rp, Fm, Nl, hs, u1, u2, c1, c2, hN⟩ := I
    obtain ⟨T', X', e', stp⟩ := initO X hx hZ hown (hw _ k1) (hw _ k2) (hw _ k3) rfl (g := mkF m pc (cL α b L) (cV α b (.ref (a + 1) :: rest))) rfl (by show (cL α b L).size = c.maxLocals; rw [cL_size, hl, hml]) (a := b + a) (rest := cV α b rest) rfl (hb hc d) (by rw [hR]; exact Nat.le_of_ble_eq_true z4) (W := (rest.map fun v => v.category).sum) (by show 2 * 0 + _ ≤ _; rw [cV_sum]; exact Nat.le_of_eq (Nat.zero_add _)) (by rw [hR]; exact Nat.le_of_ble_eq_true z5)
    exact ⟨T', locs, cells, slots, ⟨X', by rw [e']; exact Rp, by rw [e']; exact Fm, Nl, by rw [e']; exact hs, u1, u2, c1, c2, hN⟩, fun target r => stp target r⟩) g
/-- a new object of the class -/
theorem go_new {n : Nat} (k1 : Jvm.Cond.classLink (mY M).cls idx (cN P.2) ∈ P.1) (htM : mTop M = true) (hn : w.2.length = n) (hq : usedC w = (cK P.2 + 1) * n) (hw' : w' = (w.1, w.2 ++ [(0, s0)])) (hN' : Nat.blt n (mN M) = true) (hR1 : Nat.ble (usedC w + 1) ((mR M).cells + mUC M) = true) (hR2 : Nat.ble (usedS P.2 w + cF P.2) ((mR M).slots + mUS M) = true)
    (d : decode (mB M) pc = .ok (.new idx, 3)) (hid : id = (cK P.2 + 1) * n + 1) (g : Go P M (pc + 3) L (.ref id :: st) w' out) : Go P M pc L st w out :=
  go_ch (fun l Z a0 p e R s1 m args below meth c α b n0 h0 uC uS ok hl T locs cells slots I => by
    subst hw' hid
    obtain ⟨hw, fa, hx, hZ, hown, hc, hml, hret, hnm, hR, hn0, htop, hsz⟩ := ok
    obtain ⟨X, Rp, Fm, Nl, hs, u1, u2, c1, c2, hN⟩ := I
    obtain ⟨t1, t2, t3⟩ := htop htM
    have b1 : cells + 1 ≤ R.cells := by have := Nat.le_of_ble_eq_true hR1; rw [hR]; omega
    have b2 : slots + cF P.2 ≤ R.slots := by have := Nat.le_of_ble_eq_true hR2; rw [hR]; omega
    obtain ⟨T2, h2, X2, e2, E2, A2, D2, -, st2⟩ := newO X hx hZ hown (hw _ k1) fa.1 fa.2.1 rfl (g := mkF m pc (cL α b L) (cV α b st)) rfl (hb hc d) b1 b2
    have ha : T.heap.size = b + (cK P.2 + 1) * n := by rw [hs, t1]; omega
    rw [ha] at A2 D2 st2
    have sz2 : T2.heap.size = T.heap.size + 1 := by
      have q1 := X2.heapSize
      have q2 : b + (cK P.2 + 1) * n < h2.size := A2.lt
      rw [e2] at q1 ⊢
      omega
    refine ⟨T2, locs, _, _, ⟨X2, ?_, by rw [e2]; exact Fm.ext E2, Nl, by rw [sz2, hs]; omega, ?_, ?_, b1, b2, ?_⟩, fun target r => st2 target ?_⟩
    · rw [e2]
      refine ⟨fun l1 h1 => (Rp.ext E2).1 l1 h1, fun j oj hj => ?_⟩
      by_cases q : j < w.2.length
      · rw [show (w.1, w.2 ++ [(0, s0)]).2 = w.2 ++ [(0, s0)] from rfl, List.getElem?_append_left q] at hj
        exact (Rp.ext E2).2 j oj hj
      · have hj' := get_lt hj
        simp at hj'
        have ej : j = n := by omega
        subst ej
        rw [show (w.1, w.2 ++ [(0, s0)]).2 = w.2 ++ [(0, s0)] from rfl, List.getElem?_append_right (by omega)] at hj
        rw [hn] at hj; simp at hj; subst hj
        refine ⟨A2, fun f x hx => ?_, fun q x hx => ?_, fun q x _ hq => absurd hq (Nat.not_lt_zero _)⟩
        · have := D2 (fa.2.2.1 f x hx).1 (fa.2.2.1 f x hx).2
          rw [fa.2.2.2.2.2.1 f x hx] at this
          exact this
        · have := D2 (fa.2.2.2.1 q x hx).1 (fa.2.2.2.1 q x hx).2
          rw [if_neg (Nat.not_lt_zero _)]
          exact this
    · simp [usedC] at u1 ⊢; omega
    · simp [usedS] at u2 ⊢; omega
    · simp; have : n < mN M := by simpa [Nat.blt_eq] using hN'
      omega
    · exact r) g
/-- a new array, laid into its field at once -/
theorem rep_new {Z : State} {a0 : Array Value} {ci : CI} {h h1 h2 : Heap} {b : Nat} {s s' : S} {k : Nat} {nm ds : String} {ty : FieldType} {cap : Nat} {cl : Cell} (fa : Facts Z a0 ci) (F : Rep1 Z ci h b (k, s)) (hf : (cA ci)[k]? = some (nm, ds, ty, cap)) (E : Ext h h1) (A : Arr Z h1 (b + 1 + k) cl ty) (ec : cl.slots = (arV ty s' k).toArray)
    (Wt : Wr h1 h2 b (Jvm.RoadKit.slotOf Z (cN ci) nm ds) (.ref (b + 1 + k))) (ho : ∀ q' x, (cA ci)[q']? = some x → q' ≠ k → arV x.2.2.1 s' q' = arV x.2.2.1 s q') (ha : gI s' = gI s) (hbb : gL s' = gL s) : Rep1 Z ci h2 b (k + 1, s') := by
  obtain ⟨f1, f2, f3, f4⟩ := F
  obtain ⟨-, -, g1, g2, g3, -⟩ := fa
  have lt := get_lt hf
  refine ⟨(f1.ext E).wr Wt, fun f x hx => ?_, fun q x hx => ?_, fun q x hx hq => ?_⟩
  · have e : scV x.2.2 s' f = scV x.2.2 s f := by unfold scV; split <;> simp [ha, hbb]
    have lt' := get_lt hx
    show Fld Z h2 b (cN ci) x.1 x.2.1 (scV x.2.2 s' f)
    rw [e]
    refine ((f2 f x hx).ext E).other Wt (Or.inr ?_)
    refine slot_ne (g1 f x hx).1 (g2 k _ hf).1 ?_ (g1 f x hx).2 (g2 k _ hf).2
    intro en
    have n1 : ((cS ci).map (fun x => x.1) ++ (cA ci).map (fun x => x.1))[f]? = some x.1 := by rw [List.getElem?_append_left (by simpa using lt')]; simp [hx]
    have n2 : ((cS ci).map (fun x => x.1) ++ (cA ci).map (fun x => x.1))[(cS ci).length + k]? = some nm := by rw [List.getElem?_append_right (by simp)]; simp [hf]
    rw [en] at n1
    obtain ⟨i1, j1⟩ := List.getElem?_eq_some_iff.mp n1
    obtain ⟨i2, j2⟩ := List.getElem?_eq_some_iff.mp n2
    have := (List.getElem_inj g3).mp (j1.trans j2.symm)
    omega
  · by_cases e : q = k
    · subst e
      cases hf.symm.trans hx
      rw [if_pos (show q < (q + 1, s').1 from Nat.lt_succ_self q)]
      exact ((f3 q _ hf).ext E).same Wt
    · have lt' := get_lt hx
      have e2 : (if q < (k + 1, s').1 then Value.ref (b + 1 + q) else Value.null) = (if q < (k, s).1 then Value.ref (b + 1 + q) else Value.null) := by
        show (if q < k + 1 then _ else _) = (if q < k then _ else _)
        by_cases q1 : q < k
        · rw [if_pos q1, if_pos (by omega)]
        · rw [if_neg q1, if_neg (by omega)]
      rw [e2]
      refine ((f3 q x hx).ext E).other Wt (Or.inr ?_)
      refine slot_ne (g2 q x hx).1 (g2 k _ hf).1 ?_ (g2 q x hx).2 (g2 k _ hf).2
      intro en
      have n1 : ((cS ci).map (fun x => x.1) ++ (cA ci).map (fun x => x.1))[(cS ci).length + q]? = some x.1 := by rw [List.getElem?_append_right (by simp)]; simp [hx]
      have n2 : ((cS ci).map (fun x => x.1) ++ (cA ci).map (fun x => x.1))[(cS ci).length + k]? = some nm := by rw [List.getElem?_append_right (by simp)]; simp [hf]
      rw [en] at n1
      obtain ⟨i1, j1⟩ := List.getElem?_eq_some_iff.mp n1
      obtain ⟨i2, j2⟩ := List.getElem?_eq_some_iff.mp n2
      have := (List.getElem_inj g3).mp (j1.trans j2.symm)
      omega
  · by_cases e : q = k
    · subst e
      cases hf.symm.trans hx
      exact ⟨cl, A.other Wt (nq (by omega)), ec⟩
    · obtain ⟨c, B, eb⟩ := f4 q x hx (by have : q < k + 1 := hq; show q < k; omega)
      refine ⟨c, (B.ext E).other Wt (nq (by omega)), eb.trans ?_⟩
      rw [ho q x hx e]
theorem go_newV {aty : ArrayType} {ty : FieldType} {nm ds : String} {cap : Nat} {n : Int32} {s' : S} (hty : newarray.typeOf aty = ty) (ha : (cA P.2)[k]? = some (nm, ds, ty, cap)) (k0 : Jvm.Cond.arrayClass ty ∈ P.1) (k1 : Jvm.Cond.fieldLink (cN P.2) idx (cN P.2) nm ds ∈ P.1) (hM : (mY M).cls = cN P.2)
    (hlays : Jvm.Cond.lays (cN P.2) (cN P.2) nm ds ∈ P.1 ∨ (Jvm.Cond.laysFinal (cN P.2) (cN P.2) nm ds ∈ P.1 ∧ (mY M).name = "<init>")) (htM : mTop M = true) (hp : 0 < mN M) (hn : ¬ n < 0) (hcap : Nat.ble n.toNatClampNeg cap = true) (hbig : Nat.ble (cap * 8) 536870912 = true)
    (hR1 : Nat.ble (1 + k + 1) ((mR M).cells + mUC M) = true) (hR2 : Nat.ble (usedS P.2 (none, [(k, s)]) + cap) ((mR M).slots + mUS M) = true)
    (hv : arV ty s' k = List.replicate n.toNatClampNeg (defaultValue ty)) (hoth : ∀ q' x, (cA P.2)[q']? = some x → q' ≠ k → arV x.2.2.1 s' q' = arV x.2.2.1 s q') (hgI : gI s' = gI s) (hgL : gL s' = gL s)
    (d : decode (mB M) pc = .ok (.newarray aty, 2)) (d2 : decode (mB M) (pc + 2) = .ok (.putfield idx, 3)) (g : Go P M (pc + 5) L st (none, [(k + 1, s')]) out) : Go P M pc L (.int n :: .ref 1 :: st) (none, [(k, s)]) out :=
  go_ch (fun l Z a0 p e R s1 m args below meth c α b n0 h0 uC uS ok hl T locs cells slots I => by
    obtain ⟨hw, fa, hx, hZ, hown, hc, hml, hret, hnm, hR, hn0, htop, hsz⟩ := ok
    obtain ⟨X, Rp, Fm, Nl, hs, u1, u2, c1, c2, hN⟩ := I
    obtain ⟨t1, t2, t3⟩ := htop htM
    have u1' : cells + uC = 1 + k := by simpa [usedC] using u1
    have b1 : cells + 1 ≤ R.cells := by have := Nat.le_of_ble_eq_true hR1; rw [hR]; omega
    have b2 : slots + cap ≤ R.slots := by have := Nat.le_of_ble_eq_true hR2; rw [hR]; omega
    subst hty
    obtain ⟨T2, h2, cA2, X2, e2, E2, A2, st2⟩ := newP X hx hZ (hw _ k0) rfl (g := mkF m pc (cL α b L) (.int n :: .ref b :: cV α b st)) rfl (hb hc d) rfl hn (Nat.le_of_ble_eq_true hcap) (Nat.le_of_ble_eq_true hbig) b1 b2
    have hadr : T.heap.size = b + 1 + k := by rw [hs, t1]; omega
    rw [hadr] at A2 st2
    have sz2 : T2.heap.size = T.heap.size + 1 := by
      have q1 := X2.heapSize
      have q2 : b + 1 + k < h2.size := A2.lt
      rw [e2] at q1 ⊢
      omega
    have Rp1 := rep_one Rp
    have Fd := Rp1.2.2.1 k _ ha
    rw [if_neg (show ¬ k < (k, s).1 from Nat.lt_irrefl k)] at Fd
    rw [hM] at hown
    obtain ⟨T3, h3, X3, e3, Wt, st3⟩ := putF X2 hx hZ hown (host := "") (Or.inl (hw _ k1)) Via.refl e2 (Fd.ext E2) (Rp1.1.ext E2) (hlays.imp (fun q => hw _ q) (fun q => ⟨hw _ q.1, rfl, hnm.trans q.2⟩)) fa.1 (fa.2.2.2.1 k _ ha).2 (v := .ref (b + 1 + k)) rfl rfl (g := mkF m (pc + 2) (cL α b L) (.ref (b + 1 + k) :: .ref b :: cV α b st)) rfl rfl (hb hc d2)
    refine ⟨T3, _, _, _, ⟨X3, rep_mk (by rw [e3]; exact rep_new fa Rp1 ha E2 A2 (by rw [hv]; simp [newA]) Wt hoth hgI hgL), by rw [e3]; exact (Fm.ext E2).wr Wt (Nat.le_refl _) (by have := Nat.mul_le_mul_left (cK P.2 + 1) hp; omega), Fr.snoc X3 Nl hn0, by rw [e3, Wt.size, ← e2, sz2, hs]; omega, by simp [usedC]; omega, ?_, b1, b2, hN⟩, fun target r => st2 target (st3 target r)⟩
    have hk := get_lt ha
    simp only [usedS, List.map_cons, List.map_nil, List.sum_cons, List.sum_nil] at u2 ⊢
    rw [List.take_add_one, List.map_append, List.sum_append, ha]
    simp [List.map_take] at u2 ⊢; omega) g
theorem go_newI {aty : ArrayType} {ty : FieldType} {nm ds : String} {cap : Nat} {n : Int32} (hty : newarray.typeOf aty = ty) (hi : ty = .int ∨ ty = .boolean ∨ ty = .byte) (ha : (cA P.2)[k]? = some (nm, ds, ty, cap)) (k0 : Jvm.Cond.arrayClass ty ∈ P.1) (k1 : Jvm.Cond.fieldLink (cN P.2) idx (cN P.2) nm ds ∈ P.1) (hM : (mY M).cls = cN P.2)
    (hlays : Jvm.Cond.lays (cN P.2) (cN P.2) nm ds ∈ P.1 ∨ (Jvm.Cond.laysFinal (cN P.2) (cN P.2) nm ds ∈ P.1 ∧ (mY M).name = "<init>")) (htM : mTop M = true) (hp : 0 < mN M) (hn : ¬ n < 0) (hcap : Nat.ble n.toNatClampNeg cap = true) (hbig : Nat.ble (cap * 8) 536870912 = true)
    (hR1 : Nat.ble (1 + k + 1) ((mR M).cells + mUC M) = true) (hR2 : Nat.ble (usedS P.2 (none, [(k, s)]) + cap) ((mR M).slots + mUS M) = true)
    (d : decode (mB M) pc = .ok (.newarray aty, 2)) (d2 : decode (mB M) (pc + 2) = .ok (.putfield idx, 3)) (g : Go P M (pc + 5) L st (none, [(k + 1, sA s k (rep n.toNatClampNeg 0))]) out) : Go P M pc L (.int n :: .ref 1 :: st) (none, [(k, s)]) out :=
  go_newV hty ha k0 k1 hM hlays htM hp hn hcap hbig hR1 hR2 (by rcases hi with rfl | rfl | rfl <;> simp [arV, gA_sA, defaultValue, rep]) (fun q' x _ h => arV_sA s k _ _ q' h) rfl rfl d d2 g
theorem go_newJ {nm ds : String} {cap : Nat} {n : Int32} (ha : (cA P.2)[k]? = some (nm, ds, .long, cap)) (k0 : Jvm.Cond.arrayClass .long ∈ P.1) (k1 : Jvm.Cond.fieldLink (cN P.2) idx (cN P.2) nm ds ∈ P.1) (hM : (mY M).cls = cN P.2)
    (hlays : Jvm.Cond.lays (cN P.2) (cN P.2) nm ds ∈ P.1 ∨ (Jvm.Cond.laysFinal (cN P.2) (cN P.2) nm ds ∈ P.1 ∧ (mY M).name = "<init>")) (htM : mTop M = true) (hp : 0 < mN M) (hn : ¬ n < 0) (hcap : Nat.ble n.toNatClampNeg cap = true) (hbig : Nat.ble (cap * 8) 536870912 = true)
    (hR1 : Nat.ble (1 + k + 1) ((mR M).cells + mUC M) = true) (hR2 : Nat.ble (usedS P.2 (none, [(k, s)]) + cap) ((mR M).slots + mUS M) = true)
    (d : decode (mB M) pc = .ok (.newarray .long, 2)) (d2 : decode (mB M) (pc + 2) = .ok (.putfield idx, 3)) (g : Go P M (pc + 5) L st (none, [(k + 1, sB s k (rep n.toNatClampNeg 0))]) out) : Go P M pc L (.int n :: .ref 1 :: st) (none, [(k, s)]) out :=
  go_newV (aty := .long) (ty := .long) rfl ha k0 k1 hM hlays htM hp hn hcap hbig hR1 hR2 (by simp [arV, gB_sB, defaultValue, rep]) (fun q' x _ h => arV_sB s k _ _ q' h) rfl rfl d d2 g
end Rules
/-! ## the start -/
theorem tsw_out {x : Int32} {lo hi : Int} (h1 : -2147483648 ≤ lo) (h2 : hi < 2147483648) (ks : List Int32) (hk : ks = ((List.range (hi - lo + 1).toNat).map fun (j : Nat) => Int32.ofInt (lo + (j : Int)))) (hx : ∀ k ∈ ks, x ≠ k) : x.toInt < lo ∨ x.toInt > hi := by
  by_cases q1 : x.toInt < lo
  · exact Or.inl q1
  by_cases q2 : x.toInt > hi
  · exact Or.inr q2
  refine absurd rfl (hx x ?_)
  rw [hk, List.mem_map]
  refine ⟨(x.toInt - lo).toNat, List.mem_range.mpr (by omega), ?_⟩
  rw [show lo + (((x.toInt - lo).toNat : Nat) : Int) = x.toInt by omega]
  exact Int32.ofInt_toInt x
theorem list_of_array {V : Type} (a : Array V) (f : Nat → V) (h : ∀ j, j < a.size → a[j]? = some (f j)) : a = ((List.range a.size).map f).toArray := by
  apply Array.ext'
  apply List.ext_getElem?
  intro j
  by_cases q : j < a.size
  · simpa [q] using h j q
  · simp [q]
theorem small_len {n : Nat} {k : Int32} (h : n < 2 ^ 31) (q : n.toInt32 ≤ k) : (n : Int) ≤ k.toInt := by
  have e : (Int32.ofNat n).toInt = n := Int32.toInt_ofNat_of_lt h
  have := Int32.le_iff_toInt_le.mp q
  rwa [show n.toInt32.toInt = n from e] at this
theorem script_of {s : State} {args : Array Value} {t : Term} {k : Int32} (hf : Fit s) (h1 : (Cond.arrayOf t .int).value args s none s [] = some true) (h2 : (Cond.le (.length t) (.int k)).value args s none s [] = some true) :
    ∃ (a : Nat) (l : List Int32), t.eval args s none [] s = some (.ref a) ∧ Ar s s.heap a .int (l.map .int) ∧ a < s.heap.size ∧ (l.length : Int) ≤ k.toInt := by
  obtain ⟨a, ev⟩ := arr_v h1
  obtain ⟨c, A⟩ := Arr.start ev h1
  obtain ⟨x, y, ex, ey, -, -⟩ := cmp_v (Or.inr (Or.inr h2))
  obtain ⟨b, cell, e1, e2, e3, ev2⟩ := Jvm.Lib.length_spec ex
  have ea : b = a := by rw [ev] at e1; cases e1; rfl
  have ec : cell = c := by
    have := Arr.fin (Vm.Alike.refl _) A
    rw [ea, this] at e2; cases e2; rfl
  subst ea ec ev2
  obtain ⟨n, en, S⟩ := Scr.start hf A e3
  have hle : cell.slots.size.toInt32 ≤ k := by
    have ek : (Term.int k).eval args s none [] s = some (.int k) := rfl
    simp only [Cond.value, ex, ek] at h2
    simpa using h2
  refine ⟨b, (List.range cell.slots.size).map fun j => atv cell (Int32.ofNat j), ev, ⟨cell, A, ?_⟩, A.lt, ?_⟩
  · rw [List.map_map]
    refine list_of_array cell.slots _ fun j hj => ?_
    have e4 : (Int32.ofNat j).toNatClampNeg = j := by
      have : (Int32.ofNat j).toInt = j := Int32.toInt_ofNat_of_lt (by omega)
      simp [Int32.toNatClampNeg, this]
    have e5 : ¬ (Int32.ofNat j < 0) := by
      rw [Int32.lt_iff_toInt_lt, Int32.toInt_ofNat_of_lt (by omega)]; simp
    have := S.2.2.2 (Int32.ofNat j) (by rw [e4]; rintro (q | q); exact e5 q; omega)
    rw [e4] at this
    exact this
  · simpa using small_len e3 hle
theorem repW_none (Z : State) (ci : CI) (α b : Nat) (h : Heap) : RepW Z ci α b (none, []) h := ⟨fun l hl => (by cases hl), fun i o ho => (by simp at ho)⟩
theorem repW_some {Z : State} {ci : CI} {α b : Nat} {h : Heap} {l : List Int32} (A : Ar Z h α .int (l.map .int)) (q : α < b) : RepW Z ci α b (some l, []) h := ⟨fun l' hl => by cases hl; exact ⟨A, q⟩, fun i o ho => by simp at ho⟩
end Jvm.AM
/-! ## plain lemmas on ints, arrays and updates -/
namespace Jvm.PL
open Jvm.AM
theorem ofNat_toInt {k : Nat} (h : k < 2147483648) : (Int32.ofNat k).toInt = k := Int32.toInt_ofNat_of_lt h
theorem ofNat_lt {k m : Nat} (hk : k < 2147483648) (hm : m < 2147483648) : Int32.ofNat k < Int32.ofNat m ↔ k < m := by
  rw [Int32.lt_iff_toInt_lt, ofNat_toInt hk, ofNat_toInt hm]; omega
theorem lt_lit {k m : Nat} (hk : k < 2147483648) (hm : m < 2147483648 := by decide) : Int32.ofNat k < (OfNat.ofNat m : Int32) ↔ k < m := ofNat_lt hk hm
theorem ofNat_succ (k : Nat) : Int32.ofNat k + 1 = Int32.ofNat (k + 1) := by
  rw [Int32.ofNat_add]; rfl
theorem ofNat_nonneg {k : Nat} (hk : k < 2147483648) : ¬ Int32.ofNat k < 0 := by rw [Int32.lt_iff_toInt_lt, ofNat_toInt hk]; simp
theorem ofNat_clamp {k : Nat} (hk : k < 2147483648) : (Int32.ofNat k).toNatClampNeg = k := by simp [Int32.toNatClampNeg, ofNat_toInt hk]
theorem ix_ofNat {A : Type} (l : List A) {k : Nat} (hk : k < 2147483648) : ix l (Int32.ofNat k) = l[k]? := by
  unfold ix; rw [if_neg (ofNat_nonneg hk), ofNat_clamp hk]
theorem st_ofNat {A : Type} (l : List A) (x : A) {k : Nat} (hk : k < 2147483648) (hl : k < l.length) : Jvm.AM.st l (Int32.ofNat k) x = some (l.set k x) := by
  unfold Jvm.AM.st; rw [if_neg (ofNat_nonneg hk), ofNat_clamp hk, if_pos hl]
theorem toInt_clamp {v : Int32} (h : ¬ v < 0) : (v.toNatClampNeg : Int) = v.toInt := by
  rw [Int32.lt_iff_toInt_lt] at h
  simp only [Int32.toNatClampNeg]
  have : (0 : Int32).toInt = 0 := rfl
  omega
theorem eq_ofNat {v : Int32} (h : ¬ v < 0) : v = Int32.ofNat v.toNatClampNeg ∧ v.toNatClampNeg < 2147483648 := by
  have h1 := toInt_clamp h
  have h2 := v.toInt_lt
  have h3 : v.toNatClampNeg < 2147483648 := by omega
  refine ⟨Int32.toInt_inj.mp ?_, h3⟩
  rw [ofNat_toInt h3]; exact h1.symm
theorem ix_rep {A : Type} {v : Int32} {n : Nat} {x : A} (h0 : ¬ v < 0) (h1 : v < Int32.ofNat n) (hn : n < 2147483648) : ix (rep n x) v = some x := by
  obtain ⟨e, hl⟩ := eq_ofNat h0
  rw [e] at h1 ⊢
  have h2 := (ofNat_lt hl hn).mp h1
  rw [ix_ofNat _ hl, rep_get, if_pos h2]
theorem ix_nat {A : Type} (l : List A) {v : Int32} (h0 : ¬ v < 0) : ix l v = l[v.toNatClampNeg]? := by unfold ix; rw [if_neg h0]
theorem st_nat {A : Type} (l : List A) {v : Int32} {x : A} (h0 : ¬ v < 0) (hl : v.toNatClampNeg < l.length) : Jvm.AM.st l v x = some (l.set v.toNatClampNeg x) := by
  unfold Jvm.AM.st; rw [if_neg h0, if_pos hl]
theorem clamp_lt {v : Int32} {n : Nat} (h0 : ¬ v < 0) (h1 : v < Int32.ofNat n) (hn : n < 2147483648) : v.toNatClampNeg < n := by
  obtain ⟨e, hl⟩ := eq_ofNat h0
  rw [e] at h1
  exact (ofNat_lt hl hn).mp h1
theorem clamp_inj {v w : Int32} (h0 : ¬ v < 0) (h1 : ¬ w < 0) : v.toNatClampNeg = w.toNatClampNeg ↔ v = w := by
  constructor
  · intro h
    have a := toInt_clamp h0
    have b := toInt_clamp h1
    exact Int32.toInt_inj.mp (by omega)
  · intro h; rw [h]
end Jvm.PL
namespace Jvm.PL
open Jvm.AM
/-- all but the named fields and arrays is as it was -/
def Fx (I L A B : List Nat) (s s' : S) : Prop := (∀ f, f ∉ I → gI s' f = gI s f) ∧ (∀ f, f ∉ L → gL s' f = gL s f) ∧ (∀ f, f ∉ A → gA s' f = gA s f) ∧ (∀ f, f ∉ B → gB s' f = gB s f)
theorem Fx.refl (I L A B : List Nat) (s : S) : Fx I L A B s s := ⟨fun _ _ => rfl, fun _ _ => rfl, fun _ _ => rfl, fun _ _ => rfl⟩
theorem Fx.trans {I L A B : List Nat} {s t u : S} (h : Fx I L A B s t) (k : Fx I L A B t u) : Fx I L A B s u :=
  ⟨fun f q => (k.1 f q).trans (h.1 f q), fun f q => (k.2.1 f q).trans (h.2.1 f q), fun f q => (k.2.2.1 f q).trans (h.2.2.1 f q), fun f q => (k.2.2.2 f q).trans (h.2.2.2 f q)⟩
theorem Fx.mono {I L A B I' L' A' B' : List Nat} {s t : S} (h : Fx I L A B s t) (a : ∀ f ∈ I, f ∈ I') (b : ∀ f ∈ L, f ∈ L') (c : ∀ f ∈ A, f ∈ A') (d : ∀ f ∈ B, f ∈ B') : Fx I' L' A' B' s t :=
  ⟨fun f q => h.1 f fun x => q (a f x), fun f q => h.2.1 f fun x => q (b f x), fun f q => h.2.2.1 f fun x => q (c f x), fun f q => h.2.2.2 f fun x => q (d f x)⟩
theorem Fx.sA {I L A B : List Nat} {s t : S} {f : Nat} {l : List Int32} (h : Fx I L A B s t) (hf : f ∈ A) : Fx I L A B s (Jvm.AM.sA t f l) :=
  ⟨fun g q => (gI_sA _ _ _ _).trans (h.1 g q), fun g q => (gL_sA _ _ _ _).trans (h.2.1 g q), fun g q => by rw [gA_sA, if_neg (fun e : g = f => q (e ▸ hf))]; exact h.2.2.1 g q, fun g q => (gB_sA _ _ _ _).trans (h.2.2.2 g q)⟩
theorem Fx.sI {I L A B : List Nat} {s t : S} {f : Nat} {l : Int32} (h : Fx I L A B s t) (hf : f ∈ I) : Fx I L A B s (Jvm.AM.sI t f l) :=
  ⟨fun g q => by rw [gI_sI, if_neg (fun e : g = f => q (e ▸ hf))]; exact h.1 g q, fun g q => (gL_sI _ _ _ _).trans (h.2.1 g q), fun g q => (gA_sI _ _ _ _).trans (h.2.2.1 g q), fun g q => (gB_sI _ _ _ _).trans (h.2.2.2 g q)⟩
theorem Fx.sL {I L A B : List Nat} {s t : S} {f : Nat} {l : Int64} (h : Fx I L A B s t) (hf : f ∈ L) : Fx I L A B s (Jvm.AM.sL t f l) :=
  ⟨fun g q => (gI_sL _ _ _ _).trans (h.1 g q), fun g q => by rw [gL_sL, if_neg (fun e : g = f => q (e ▸ hf))]; exact h.2.1 g q, fun g q => (gA_sL _ _ _ _).trans (h.2.2.1 g q), fun g q => (gB_sL _ _ _ _).trans (h.2.2.2 g q)⟩
theorem Fx.sB {I L A B : List Nat} {s t : S} {f : Nat} {l : List Int64} (h : Fx I L A B s t) (hf : f ∈ B) : Fx I L A B s (Jvm.AM.sB t f l) :=
  ⟨fun g q => (gI_sB _ _ _ _).trans (h.1 g q), fun g q => (gL_sB _ _ _ _).trans (h.2.1 g q), fun g q => (gA_sB _ _ _ _).trans (h.2.2.1 g q), fun g q => by rw [gB_sB, if_neg (fun e : g = f => q (e ▸ hf))]; exact h.2.2.2 g q⟩
theorem ofNat_add' (a b : Nat) : Int32.ofNat a + Int32.ofNat b = Int32.ofNat (a + b) := (Int32.ofNat_add a b).symm
/-- the first k entries are x -/
def Upto {A : Type} (l : List A) (k : Nat) (x : A) : Prop := ∀ i, i < k → l[i]? = some x
theorem Upto.zero {A : Type} (l : List A) (x : A) : Upto l 0 x := fun _ h => absurd h (Nat.not_lt_zero _)
theorem Upto.set {A : Type} {l : List A} {k : Nat} {x : A} (h : Upto l k x) (hk : k < l.length) : Upto (l.set k x) (k + 1) x := fun i hi => by
  by_cases e : i = k
  · subst e; simp [hk]
  · rw [List.getElem?_set_ne (Ne.symm e)]; exact h i (by omega)
theorem Upto.all {A : Type} {l : List A} {k : Nat} {x : A} (h : Upto l k x) (hk : l.length = k) : l = rep k x := by
  apply List.ext_getElem?
  intro i
  rw [rep_get]
  by_cases q : i < k
  · rw [if_pos q]; exact h i q
  · rw [if_neg q, List.getElem?_eq_none (by omega)]
end Jvm.PL
namespace Jvm.PL
open Jvm.AM
/-- a loop by its invariant; m: the turns that are left -/
theorem run_loop {A B : Type} (L : Nat → A → B) (F : A → B) (I : Nat → A → Prop) (h : ∀ n m a, I (m + 1) a → ∃ a', L (n + 1) a = L n a' ∧ I m a') (h0 : ∀ n a, I 0 a → L (n + 1) a = F a) : ∀ m n a, m < n → I m a → ∃ a', L n a = F a' ∧ I 0 a'
  | 0, n + 1, a, _, i => ⟨a, h0 n a i, i⟩
  | m + 1, n + 1, a, q, i => by
    obtain ⟨a', e, i'⟩ := h n m a i
    obtain ⟨a'', e', i''⟩ := run_loop L F I h h0 m n a' (by omega) i'
    exact ⟨a'', e.trans e', i''⟩
/-- 'for k in 0 .. N' -/
theorem run_for {B : Type} (L : Nat → Int32 → S → B) (F : S → B) (N : Nat) (I : Nat → S → Prop) (h : ∀ n k s, k < N → I k s → ∃ s', L (n + 1) (Int32.ofNat k) s = L n (Int32.ofNat (k + 1)) s' ∧ I (k + 1) s') (h0 : ∀ n s, I N s → L (n + 1) (Int32.ofNat N) s = F s) (n : Nat) (s : S) (hn : N < n) (i : I 0 s) :
    ∃ s', L n (Int32.ofNat 0) s = F s' ∧ I N s' := by
  obtain ⟨a, e, k, hk, ea, ia⟩ := run_loop (fun n (a : Int32 × S) => L n a.1 a.2) (fun a => F a.2) (fun m a => ∃ k, k + m = N ∧ a.1 = Int32.ofNat k ∧ I k a.2)
    (fun n m a ⟨k, h1, h2, h3⟩ => by
      obtain ⟨s', e, i'⟩ := h n k a.2 (by omega) h3
      exact ⟨(Int32.ofNat (k + 1), s'), by show L (n + 1) a.1 a.2 = _; rw [h2]; exact e, k + 1, by omega, rfl, i'⟩)
    (fun n a ⟨k, h1, h2, h3⟩ => by
      have : k = N := by omega
      subst this
      show L (n + 1) a.1 a.2 = _; rw [h2]; exact h0 n a.2 h3) N n (Int32.ofNat 0, s) hn ⟨0, by omega, rfl, i⟩
  have : k = N := by omega
  subst this
  exact ⟨a.2, e, ia⟩
end Jvm.PL
namespace Jvm.PL
open Jvm.AM
/-- the end test of a loop over a script -/
theorem len_lt {n k c : Nat} (hn : n ≤ 100000) (hk : k ≤ 100000) (hc : c ≤ 100000) : (n.toInt32 - Int32.ofNat c) < Int32.ofNat k ↔ n < k + c := by
  rw [Int32.lt_iff_toInt_lt, Int32.toInt_sub, show n.toInt32 = Int32.ofNat n from rfl, ofNat_toInt (by omega), ofNat_toInt (by omega), ofNat_toInt (by omega)]
  have : ((n : Int) - c).bmod (2 ^ 32) = n - c := by
    rw [Int.bmod_eq_of_le] <;> omega
  rw [this]; omega
/-- a loop over a script, c entries a turn: it ends in what every way out says -/
theorem run_script {A B : Type} (L : Nat → Int32 → A → B) (c len : Nat) (hc : 0 < c) (P : B → Prop) (I : Nat → A → Prop) (h : ∀ n k a, k + c ≤ len → I k a → P (L (n + 1) (Int32.ofNat k) a) ∨ ∃ a', L (n + 1) (Int32.ofNat k) a = L n (Int32.ofNat (k + c)) a' ∧ I (k + c) a') (h0 : ∀ n k a, k ≤ len → len < k + c → I k a → P (L (n + 1) (Int32.ofNat k) a)) : ∀ n k a, len < n + k → k ≤ len → I k a → P (L n (Int32.ofNat k) a)
  | 0, k, a, hn, hk, i => by omega
  | n + 1, k, a, hn, hk, i => by
    by_cases q : k + c ≤ len
    · rcases h n k a q i with p | ⟨a', e, i'⟩
      · exact p
      · rw [e]; exact run_script L c len hc P I h h0 n (k + c) a' (by omega) q i'
    · exact h0 n k a hk (by omega) i
theorem ix_some {A : Type} (l : List A) {k : Nat} (hk : k < 2147483648) (hl : k < l.length) : ∃ x, ix l (Int32.ofNat k) = some x := ⟨l[k], by rw [ix_ofNat _ hk, List.getElem?_eq_getElem hl]⟩
theorem ofNat_lit (a b : Nat) : Int32.ofNat a + (OfNat.ofNat b : Int32) = Int32.ofNat (a + b) := ofNat_add' a b
end Jvm.PL
namespace Jvm.PL
open Jvm.AM
theorem upd_same {A : Type} (g : Nat → A) (f : Nat) (a b : A) : upd (upd g f a) f b = upd g f b := by
  funext x; unfold upd; by_cases q : x = f <;> simp [q]
theorem upd_comm {A : Type} (g : Nat → A) {f h : Nat} (n : f ≠ h) (a b : A) : upd (upd g f a) h b = upd (upd g h b) f a := by
  funext x; unfold upd
  by_cases q : x = f
  · have : ¬ f = h := n
    simp [q, this]
  · by_cases r : x = h
    · rw [if_pos r, if_neg q, if_pos r]
    · rw [if_neg r, if_neg q, if_neg q, if_neg r]
theorem sA_same (s : S) (f : Nat) (a b : List Int32) : Jvm.AM.sA (Jvm.AM.sA s f a) f b = Jvm.AM.sA s f b := by
  unfold Jvm.AM.sA; simp only [upd_same]
theorem sA_comm (s : S) {f h : Nat} (n : f ≠ h) (a b : List Int32) : Jvm.AM.sA (Jvm.AM.sA s f a) h b = Jvm.AM.sA (Jvm.AM.sA s h b) f a := by
  unfold Jvm.AM.sA; simp only; rw [upd_comm _ n]
end Jvm.PL
/-! ## rows of bits -/
namespace Jvm.PL
open Jvm.AM Jvm.Free
def bt (w : Int32) (y : Nat) : Bool := w.toBitVec.getLsbD y
theorem bt_zero (y : Nat) : bt 0 y = false := by simp [bt]
theorem bt_or (a b : Int32) (y : Nat) : bt (a ||| b) y = (bt a y || bt b y) := by simp [bt]
theorem bt_and (a b : Int32) (y : Nat) : bt (a &&& b) y = (bt a y && bt b y) := by simp [bt]
theorem bt_ge (w : Int32) {y : Nat} (h : 32 ≤ y) : bt w y = false := by unfold bt; exact BitVec.getLsbD_of_ge _ _ h
theorem bt_m1 {y : Nat} (h : y < 32) : bt (-1) y = true := by
  unfold bt
  rw [show (-1 : Int32).toBitVec = BitVec.allOnes 32 from rfl, BitVec.getLsbD_allOnes]
  simp [h]
theorem bt_not (a : Int32) {y : Nat} (h : y < 32) : bt (a ^^^ (-1)) y = !bt a y := by
  have := bt_m1 h
  unfold bt at *
  rw [Int32.toBitVec_xor, BitVec.getLsbD_xor, this]; simp
theorem bt_andn (a b : Int32) (y : Nat) : bt (a &&& (b ^^^ (-1))) y = (bt a y && !bt b y) := by
  rw [bt_and]
  by_cases h : y < 32
  · rw [bt_not b h]
  · rw [bt_ge a (by omega)]; simp
theorem bt_ext {a b : Int32} (h : ∀ y, y < 32 → bt a y = bt b y) : a = b := by
  apply Int32.toBitVec_inj.mp
  apply BitVec.eq_of_getLsbD_eq
  intro i hi
  exact h i hi
theorem bt_eq0 {w : Int32} : w = 0 ↔ ∀ y, y < 32 → bt w y = false := by
  constructor
  · rintro rfl y _; exact bt_zero y
  · intro h; exact bt_ext fun y hy => by rw [h y hy, bt_zero]
theorem ushr_bit (w : Int32) {y : Nat} (hy : y < 32) : (XT.ushr w (Int32.ofNat y)).toBitVec = w.toBitVec >>> y := by
  unfold XT.ushr
  have h1 : ((Int32.ofNat y &&& 31).toUInt32.toBitVec).toNat = y := by
    show ((Int32.ofNat y &&& 31).toBitVec).toNat = y
    rw [Int32.toBitVec_and, BitVec.toNat_and]
    have e1 : (Int32.ofNat y).toBitVec.toNat = y := by
      show (BitVec.ofNat 32 y).toNat = y
      rw [BitVec.toNat_ofNat]; omega
    have e2 : (31 : Int32).toBitVec.toNat = 31 := rfl
    rw [e1, e2, show 31 = 2 ^ 5 - 1 from rfl, Nat.and_two_pow_sub_one_eq_mod]; omega
  show (w.toUInt32 >>> (Int32.ofNat y &&& 31).toUInt32).toBitVec = _
  rw [UInt32.toBitVec_shiftRight]
  show w.toBitVec >>> ((Int32.ofNat y &&& 31).toUInt32.toBitVec % 32) = _
  rw [BitVec.ushiftRight_eq']
  congr 1
  rw [BitVec.toNat_umod, h1]
  show y % 32 = y
  omega
theorem and1 (w : Int32) : (w &&& 1 = 0) ↔ bt w 0 = false := by
  constructor
  · intro h
    have : bt (w &&& 1) 0 = false := by rw [h, bt_zero]
    rw [bt_and] at this
    simpa [show bt 1 0 = true from rfl] using this
  · intro h
    refine bt_ext fun y hy => ?_
    rw [bt_and, bt_zero]
    cases y with
    | zero => rw [h]; rfl
    | succ y =>
      have : bt 1 (y + 1) = false := by
        unfold bt
        show (1#32).getLsbD (y + 1) = false
        simp [BitVec.getLsbD_one]
      rw [this]; simp
theorem test_bit (w : Int32) {y : Nat} (hy : y < 32) : (XT.ushr w (Int32.ofNat y) &&& 1 = 0) ↔ bt w y = false := by
  rw [and1]
  unfold bt
  rw [ushr_bit w hy]; simp
theorem shl_bit {b : Nat} (hb : b < 32) (y : Nat) : bt ((1 : Int32) <<< (Int32.ofNat b &&& 31)) y = decide (y = b) := by
  have h1 : (Int32.ofNat b &&& 31) = Int32.ofNat b := by
    apply Int32.toBitVec_inj.mp
    rw [Int32.toBitVec_and]
    apply BitVec.eq_of_toNat_eq
    rw [BitVec.toNat_and]
    have e1 : (Int32.ofNat b).toBitVec.toNat = b := by
      show (BitVec.ofNat 32 b).toNat = b
      rw [BitVec.toNat_ofNat]; omega
    have e2 : (31 : Int32).toBitVec.toNat = 31 := rfl
    rw [e1, e2, show 31 = 2 ^ 5 - 1 from rfl, Nat.and_two_pow_sub_one_eq_mod]; omega
  rw [h1]
  unfold bt
  have e : ((1 : Int32) <<< Int32.ofNat b).toBitVec = (1#32) <<< b := by
    rw [Int32.toBitVec_shiftLeft]
    show (1#32) <<< ((Int32.ofNat b).toBitVec.smod 32) = _
    have : (Int32.ofNat b).toBitVec.smod 32 = BitVec.ofNat 32 b := by
      have hz : ∀ b : Fin 32, (Int32.ofNat b.val).toBitVec.smod 32 = BitVec.ofNat 32 b.val := by decide
      exact hz ⟨b, hb⟩
    rw [this, BitVec.shiftLeft_eq']
    congr 1
    rw [BitVec.toNat_ofNat]; omega
  rw [e]
  simp only [BitVec.getLsbD_shiftLeft, BitVec.getLsbD_one]
  by_cases h : y = b
  · subst h; simp [hb]
  · simp [h]; omega
end Jvm.PL
namespace Jvm.Pilot.@@N@@
open Jvm Jvm.ClassFile Sem Op Lib Jvm.Free Jvm.Stand Jvm.LawKit Jvm.RoadKit Jvm.AM Jvm.PL Jvm.Pilot.@@N@@.Jvm.D
def ci1 : CI := ("NullCheckOpt", 37, [("roleNone", "I", .int), ("roleReg", "I", .int), ("roleOff", "I", .int), ("roleImm", "I", .int), ("stepLimit", "I", .int), ("passLimit", "I", .int), ("allFacts", "I", .int), ("cells", "I", .int), ("progLen", "I", .int), ("compiled", "Z", .boolean), ("lastOutcome", "I", .int), ("lastResult", "I", .int), ("outCount", "I", .int), ("scanDepth", "I", .int), ("scanLoops", "I", .int)], [("progOp", "[I", .int, 32), ("progA", "[I", .int, 32), ("progB", "[I", .int, 32), ("progC", "[I", .int, 32), ("blockEnd", "[I", .int, 32), ("blockElse", "[I", .int, 32), ("blockOpener", "[I", .int, 32), ("scanStack", "[I", .int, 4), ("scanHasElse", "[Z", .boolean, 4), ("initialHeap", "[I", .int, 64), ("heapAfter", "[I", .int, 64), ("outputs", "[I", .int, 32), ("regs", "[I", .int, 8), ("loopLeft", "[I", .int, 32), ("skipCheck", "[Z", .boolean, 32), ("hoistMask", "[I", .int, 32), ("factIn", "[I", .int, 33), ("nextIn", "[I", .int, 33), ("succA", "[I", .int, 33), ("succB", "[I", .int, 33), ("gainA", "[I", .int, 33), ("gainB", "[I", .int, 33)])
def PP : PI := (tables_1, ci1)
def BIG : Nat := 1000000
def m0 : Meth := (⟨"NullCheckOpt", "<init>", "(I)V"⟩, prog_1_method_1_code, 3, none, { frames := 1, cells := 22, slots := 694, locals := 12 }, 1, true, 1, 37)
def m1 : Meth := (⟨"NullCheckOpt", "compile", "()I"⟩, prog_1_method_9_code, 3, (some .int), { frames := 0, cells := 0, slots := 0, locals := 0 }, 1, false, 0, 0)
def m2 : Meth := (⟨"NullCheckOpt", "isCompiled", "()Z"⟩, prog_1_method_14_code, 1, (some .boolean), { frames := 0, cells := 0, slots := 0, locals := 0 }, 1, false, 0, 0)
def m3 : Meth := (⟨"NullCheckOptL2", "reg", "(I)Z"⟩, method_2_code, 1, (some .boolean), { frames := 0, cells := 0, slots := 0, locals := 0 }, 1, false, 0, 0)
def m4 : Meth := (⟨"NullCheckOptL2", "off", "(I)Z"⟩, method_3_code, 1, (some .boolean), { frames := 0, cells := 0, slots := 0, locals := 0 }, 1, false, 0, 0)
def m5 : Meth := (⟨"NullCheckOpt", "roleOfA", "(I)I"⟩, prog_1_method_4_code, 2, (some .int), { frames := 0, cells := 0, slots := 0, locals := 0 }, 1, false, 0, 0)
def m6 : Meth := (⟨"NullCheckOpt", "roleOfB", "(I)I"⟩, prog_1_method_5_code, 2, (some .int), { frames := 0, cells := 0, slots := 0, locals := 0 }, 1, false, 0, 0)
def m7 : Meth := (⟨"NullCheckOpt", "roleOfC", "(I)I"⟩, prog_1_method_6_code, 2, (some .int), { frames := 0, cells := 0, slots := 0, locals := 0 }, 1, false, 0, 0)
def m8 : Meth := (⟨"NullCheckOpt", "fits", "(II)Z"⟩, prog_1_method_7_code, 3, (some .boolean), { frames := 0, cells := 0, slots := 0, locals := 0 }, 1, false, 0, 0)
def m9 : Meth := (⟨"NullCheckOpt", "kept", "(II)I"⟩, prog_1_method_8_code, 3, (some .int), { frames := 0, cells := 0, slots := 0, locals := 0 }, 1, false, 0, 0)
def m10 : Meth := (⟨"NullCheckOpt", "add", "(IIII)I"⟩, prog_1_method_3_code, 9, (some .int), { frames := 1, cells := 0, slots := 0, locals := 16 }, 1, false, 0, 0)
def m11 : Meth := (⟨"NullCheckOpt", "length", "()I"⟩, prog_1_method_15_code, 1, (some .int), { frames := 0, cells := 0, slots := 0, locals := 0 }, 1, false, 0, 0)
def m12 : Meth := (⟨"NullCheckOpt", "getField", "(II)I"⟩, prog_1_method_16_code, 3, (some .int), { frames := 0, cells := 0, slots := 0, locals := 0 }, 1, false, 0, 0)
def m13 : Meth := (x, code, maxLocals, ret, room_1, 1, true, 0, 0)
theorem ar_0 : (cA PP.2)[0]? = some ("progOp", "[I", .int, 32) := rfl
theorem ar_1 : (cA PP.2)[1]? = some ("progA", "[I", .int, 32) := rfl
theorem ar_2 : (cA PP.2)[2]? = some ("progB", "[I", .int, 32) := rfl
theorem ar_3 : (cA PP.2)[3]? = some ("progC", "[I", .int, 32) := rfl
theorem ar_4 : (cA PP.2)[4]? = some ("blockEnd", "[I", .int, 32) := rfl
theorem ar_5 : (cA PP.2)[5]? = some ("blockElse", "[I", .int, 32) := rfl
theorem ar_6 : (cA PP.2)[6]? = some ("blockOpener", "[I", .int, 32) := rfl
theorem ar_7 : (cA PP.2)[7]? = some ("scanStack", "[I", .int, 4) := rfl
theorem ar_8 : (cA PP.2)[8]? = some ("scanHasElse", "[Z", .boolean, 4) := rfl
theorem ar_9 : (cA PP.2)[9]? = some ("initialHeap", "[I", .int, 64) := rfl
theorem ar_10 : (cA PP.2)[10]? = some ("heapAfter", "[I", .int, 64) := rfl
theorem ar_11 : (cA PP.2)[11]? = some ("outputs", "[I", .int, 32) := rfl
theorem ar_12 : (cA PP.2)[12]? = some ("regs", "[I", .int, 8) := rfl
theorem ar_13 : (cA PP.2)[13]? = some ("loopLeft", "[I", .int, 32) := rfl
theorem ar_14 : (cA PP.2)[14]? = some ("skipCheck", "[Z", .boolean, 32) := rfl
theorem ar_15 : (cA PP.2)[15]? = some ("hoistMask", "[I", .int, 32) := rfl
theorem ar_16 : (cA PP.2)[16]? = some ("factIn", "[I", .int, 33) := rfl
theorem ar_17 : (cA PP.2)[17]? = some ("nextIn", "[I", .int, 33) := rfl
theorem ar_18 : (cA PP.2)[18]? = some ("succA", "[I", .int, 33) := rfl
theorem ar_19 : (cA PP.2)[19]? = some ("succB", "[I", .int, 33) := rfl
theorem ar_20 : (cA PP.2)[20]? = some ("gainA", "[I", .int, 33) := rfl
theorem ar_21 : (cA PP.2)[21]? = some ("gainB", "[I", .int, 33) := rfl
theorem fs_7 : FldS PP 7 0 .int := ⟨_, _, rfl, List.mem_of_getElem? (i := 9) rfl⟩
theorem fs_13 : FldS PP 13 1 .int := ⟨_, _, rfl, List.mem_of_getElem? (i := 11) rfl⟩
theorem fs_16 : FldS PP 16 2 .int := ⟨_, _, rfl, List.mem_of_getElem? (i := 13) rfl⟩
theorem fs_19 : FldS PP 19 3 .int := ⟨_, _, rfl, List.mem_of_getElem? (i := 15) rfl⟩
theorem fs_22 : FldS PP 22 4 .int := ⟨_, _, rfl, List.mem_of_getElem? (i := 17) rfl⟩
theorem fs_25 : FldS PP 25 5 .int := ⟨_, _, rfl, List.mem_of_getElem? (i := 19) rfl⟩
theorem fs_28 : FldS PP 28 6 .int := ⟨_, _, rfl, List.mem_of_getElem? (i := 21) rfl⟩
theorem fa_31 : FldA PP 31 0 .int := ⟨_, _, _, rfl, List.mem_of_getElem? (i := 24) rfl⟩
theorem fa_35 : FldA PP 35 1 .int := ⟨_, _, _, rfl, List.mem_of_getElem? (i := 26) rfl⟩
theorem fa_38 : FldA PP 38 2 .int := ⟨_, _, _, rfl, List.mem_of_getElem? (i := 28) rfl⟩
theorem fa_41 : FldA PP 41 3 .int := ⟨_, _, _, rfl, List.mem_of_getElem? (i := 30) rfl⟩
theorem fa_44 : FldA PP 44 4 .int := ⟨_, _, _, rfl, List.mem_of_getElem? (i := 32) rfl⟩
theorem fa_47 : FldA PP 47 5 .int := ⟨_, _, _, rfl, List.mem_of_getElem? (i := 34) rfl⟩
theorem fa_50 : FldA PP 50 6 .int := ⟨_, _, _, rfl, List.mem_of_getElem? (i := 36) rfl⟩
theorem fa_53 : FldA PP 53 7 .int := ⟨_, _, _, rfl, List.mem_of_getElem? (i := 38) rfl⟩
theorem fa_56 : FldA PP 56 8 .boolean := ⟨_, _, _, rfl, List.mem_of_getElem? (i := 41) rfl⟩
theorem fa_60 : FldA PP 60 9 .int := ⟨_, _, _, rfl, List.mem_of_getElem? (i := 43) rfl⟩
theorem fa_63 : FldA PP 63 10 .int := ⟨_, _, _, rfl, List.mem_of_getElem? (i := 45) rfl⟩
theorem fa_66 : FldA PP 66 11 .int := ⟨_, _, _, rfl, List.mem_of_getElem? (i := 47) rfl⟩
theorem fa_69 : FldA PP 69 12 .int := ⟨_, _, _, rfl, List.mem_of_getElem? (i := 49) rfl⟩
theorem fa_72 : FldA PP 72 13 .int := ⟨_, _, _, rfl, List.mem_of_getElem? (i := 51) rfl⟩
theorem fa_75 : FldA PP 75 14 .boolean := ⟨_, _, _, rfl, List.mem_of_getElem? (i := 53) rfl⟩
theorem fa_78 : FldA PP 78 15 .int := ⟨_, _, _, rfl, List.mem_of_getElem? (i := 55) rfl⟩
theorem fa_81 : FldA PP 81 16 .int := ⟨_, _, _, rfl, List.mem_of_getElem? (i := 57) rfl⟩
theorem fa_84 : FldA PP 84 17 .int := ⟨_, _, _, rfl, List.mem_of_getElem? (i := 59) rfl⟩
theorem fa_87 : FldA PP 87 18 .int := ⟨_, _, _, rfl, List.mem_of_getElem? (i := 61) rfl⟩
theorem fa_90 : FldA PP 90 19 .int := ⟨_, _, _, rfl, List.mem_of_getElem? (i := 63) rfl⟩
theorem fa_93 : FldA PP 93 20 .int := ⟨_, _, _, rfl, List.mem_of_getElem? (i := 65) rfl⟩
theorem fa_96 : FldA PP 96 21 .int := ⟨_, _, _, rfl, List.mem_of_getElem? (i := 67) rfl⟩
theorem fs_99 : FldS PP 99 7 .int := ⟨_, _, rfl, List.mem_of_getElem? (i := 69) rfl⟩
theorem fs_102 : FldS PP 102 8 .int := ⟨_, _, rfl, List.mem_of_getElem? (i := 71) rfl⟩
theorem fs_105 : FldS PP 105 9 .boolean := ⟨_, _, rfl, List.mem_of_getElem? (i := 73) rfl⟩
theorem fs_109 : FldS PP 109 10 .int := ⟨_, _, rfl, List.mem_of_getElem? (i := 75) rfl⟩
theorem fs_112 : FldS PP 112 11 .int := ⟨_, _, rfl, List.mem_of_getElem? (i := 77) rfl⟩
theorem fs_115 : FldS PP 115 12 .int := ⟨_, _, rfl, List.mem_of_getElem? (i := 79) rfl⟩
theorem fs_136 : FldS PP 136 13 .int := ⟨_, _, rfl, List.mem_of_getElem? (i := 86) rfl⟩
theorem fs_139 : FldS PP 139 14 .int := ⟨_, _, rfl, List.mem_of_getElem? (i := 88) rfl⟩
theorem wr_0 : Wrt PP m0 0 := ⟨_, _, _, rfl, Or.inr ⟨List.mem_of_getElem? (i := 10) rfl, rfl⟩⟩
theorem wr_1 : Wrt PP m0 1 := ⟨_, _, _, rfl, Or.inr ⟨List.mem_of_getElem? (i := 12) rfl, rfl⟩⟩
theorem wr_2 : Wrt PP m0 2 := ⟨_, _, _, rfl, Or.inr ⟨List.mem_of_getElem? (i := 14) rfl, rfl⟩⟩
theorem wr_3 : Wrt PP m0 3 := ⟨_, _, _, rfl, Or.inr ⟨List.mem_of_getElem? (i := 16) rfl, rfl⟩⟩
theorem wr_4 : Wrt PP m0 4 := ⟨_, _, _, rfl, Or.inr ⟨List.mem_of_getElem? (i := 18) rfl, rfl⟩⟩
theorem wr_5 : Wrt PP m0 5 := ⟨_, _, _, rfl, Or.inr ⟨List.mem_of_getElem? (i := 20) rfl, rfl⟩⟩
theorem wr_6 : Wrt PP m0 6 := ⟨_, _, _, rfl, Or.inr ⟨List.mem_of_getElem? (i := 22) rfl, rfl⟩⟩
theorem wr_7 (M : Meth) : Wrt PP M 7 := ⟨_, _, _, rfl, Or.inl (List.mem_of_getElem? (i := 70) rfl)⟩
theorem wr_8 (M : Meth) : Wrt PP M 8 := ⟨_, _, _, rfl, Or.inl (List.mem_of_getElem? (i := 72) rfl)⟩
theorem wr_9 (M : Meth) : Wrt PP M 9 := ⟨_, _, _, rfl, Or.inl (List.mem_of_getElem? (i := 74) rfl)⟩
theorem wr_10 (M : Meth) : Wrt PP M 10 := ⟨_, _, _, rfl, Or.inl (List.mem_of_getElem? (i := 76) rfl)⟩
theorem wr_11 (M : Meth) : Wrt PP M 11 := ⟨_, _, _, rfl, Or.inl (List.mem_of_getElem? (i := 78) rfl)⟩
theorem wr_12 (M : Meth) : Wrt PP M 12 := ⟨_, _, _, rfl, Or.inl (List.mem_of_getElem? (i := 80) rfl)⟩
theorem wr_13 (M : Meth) : Wrt PP M 13 := ⟨_, _, _, rfl, Or.inl (List.mem_of_getElem? (i := 87) rfl)⟩
theorem wr_14 (M : Meth) : Wrt PP M 14 := ⟨_, _, _, rfl, Or.inl (List.mem_of_getElem? (i := 89) rfl)⟩
theorem oid_0 : 1 = (cK PP.2 + 1) * 0 + 1 := rfl
theorem pl_0 : plainName "NullCheckOpt" = true := by first | (simp [plainName, overriddenIn]; done) | decide +kernel
theorem pl_1 : plainName "NullCheckOptL2" = true := by first | (simp [plainName, overriddenIn]; done) | decide +kernel
theorem hm_0 : (mY m0).cls = cN PP.2 := rfl
theorem hn_0 : 0 < mN m0 := by decide
theorem pd_0 : parseMethodDescriptor (mY m0).desc = some ⟨[.int], none⟩ := by decide +kernel
theorem hm_1 : (mY m1).cls = cN PP.2 := rfl
theorem hn_1 : 0 < mN m1 := by decide
theorem pd_1 : parseMethodDescriptor (mY m1).desc = some ⟨[], (some .int)⟩ := by decide +kernel
theorem hm_2 : (mY m2).cls = cN PP.2 := rfl
theorem hn_2 : 0 < mN m2 := by decide
theorem pd_2 : parseMethodDescriptor (mY m2).desc = some ⟨[], (some .boolean)⟩ := by decide +kernel
theorem hn_3 : 0 < mN m3 := by decide
theorem pd_3 : parseMethodDescriptor (mY m3).desc = some ⟨[.int], (some .boolean)⟩ := by decide +kernel
theorem hn_4 : 0 < mN m4 := by decide
theorem pd_4 : parseMethodDescriptor (mY m4).desc = some ⟨[.int], (some .boolean)⟩ := by decide +kernel
theorem hm_5 : (mY m5).cls = cN PP.2 := rfl
theorem hn_5 : 0 < mN m5 := by decide
theorem pd_5 : parseMethodDescriptor (mY m5).desc = some ⟨[.int], (some .int)⟩ := by decide +kernel
theorem hm_6 : (mY m6).cls = cN PP.2 := rfl
theorem hn_6 : 0 < mN m6 := by decide
theorem pd_6 : parseMethodDescriptor (mY m6).desc = some ⟨[.int], (some .int)⟩ := by decide +kernel
theorem hm_7 : (mY m7).cls = cN PP.2 := rfl
theorem hn_7 : 0 < mN m7 := by decide
theorem pd_7 : parseMethodDescriptor (mY m7).desc = some ⟨[.int], (some .int)⟩ := by decide +kernel
theorem hm_8 : (mY m8).cls = cN PP.2 := rfl
theorem hn_8 : 0 < mN m8 := by decide
theorem pd_8 : parseMethodDescriptor (mY m8).desc = some ⟨[.int, .int], (some .boolean)⟩ := by decide +kernel
theorem hm_9 : (mY m9).cls = cN PP.2 := rfl
theorem hn_9 : 0 < mN m9 := by decide
theorem pd_9 : parseMethodDescriptor (mY m9).desc = some ⟨[.int, .int], (some .int)⟩ := by decide +kernel
theorem hm_10 : (mY m10).cls = cN PP.2 := rfl
theorem hn_10 : 0 < mN m10 := by decide
theorem pd_10 : parseMethodDescriptor (mY m10).desc = some ⟨[.int, .int, .int, .int], (some .int)⟩ := by decide +kernel
theorem hm_11 : (mY m11).cls = cN PP.2 := rfl
theorem hn_11 : 0 < mN m11 := by decide
theorem pd_11 : parseMethodDescriptor (mY m11).desc = some ⟨[], (some .int)⟩ := by decide +kernel
theorem hm_12 : (mY m12).cls = cN PP.2 := rfl
theorem hn_12 : 0 < mN m12 := by decide
theorem pd_12 : parseMethodDescriptor (mY m12).desc = some ⟨[.int, .int], (some .int)⟩ := by decide +kernel
theorem hn_13 : 0 < mN m13 := by decide
theorem d0_0 : decode (mB m0) 0 = .ok (.aload_n 0, 1) := by decide +kernel
theorem d0_1 : decode (mB m0) 1 = .ok (.invokespecial 1, 3) := by decide +kernel
theorem d0_4 : decode (mB m0) 4 = .ok (.aload_n 0, 1) := by decide +kernel
theorem d0_5 : decode (mB m0) 5 = .ok (.iconst 0, 1) := by decide +kernel
theorem d0_6 : decode (mB m0) 6 = .ok (.putfield 7, 3) := by decide +kernel
theorem d0_9 : decode (mB m0) 9 = .ok (.aload_n 0, 1) := by decide +kernel
theorem d0_10 : decode (mB m0) 10 = .ok (.iconst 1, 1) := by decide +kernel
theorem d0_11 : decode (mB m0) 11 = .ok (.putfield 13, 3) := by decide +kernel
theorem d0_14 : decode (mB m0) 14 = .ok (.aload_n 0, 1) := by decide +kernel
theorem d0_15 : decode (mB m0) 15 = .ok (.iconst 2, 1) := by decide +kernel
theorem d0_16 : decode (mB m0) 16 = .ok (.putfield 16, 3) := by decide +kernel
theorem d0_19 : decode (mB m0) 19 = .ok (.aload_n 0, 1) := by decide +kernel
theorem d0_20 : decode (mB m0) 20 = .ok (.iconst 3, 1) := by decide +kernel
theorem d0_21 : decode (mB m0) 21 = .ok (.putfield 19, 3) := by decide +kernel
theorem d0_24 : decode (mB m0) 24 = .ok (.aload_n 0, 1) := by decide +kernel
theorem d0_25 : decode (mB m0) 25 = .ok (.sipush 4096, 3) := by decide +kernel
theorem d0_28 : decode (mB m0) 28 = .ok (.putfield 22, 3) := by decide +kernel
theorem d0_31 : decode (mB m0) 31 = .ok (.aload_n 0, 1) := by decide +kernel
theorem d0_32 : decode (mB m0) 32 = .ok (.sipush 300, 3) := by decide +kernel
theorem d0_35 : decode (mB m0) 35 = .ok (.putfield 25, 3) := by decide +kernel
theorem d0_38 : decode (mB m0) 38 = .ok (.aload_n 0, 1) := by decide +kernel
theorem d0_39 : decode (mB m0) 39 = .ok (.sipush 255, 3) := by decide +kernel
theorem d0_42 : decode (mB m0) 42 = .ok (.putfield 28, 3) := by decide +kernel
theorem d0_45 : decode (mB m0) 45 = .ok (.aload_n 0, 1) := by decide +kernel
theorem d0_46 : decode (mB m0) 46 = .ok (.bipush 32, 2) := by decide +kernel
theorem d0_48 : decode (mB m0) 48 = .ok (.newarray .int, 2) := by decide +kernel
theorem d0_50 : decode (mB m0) 50 = .ok (.putfield 31, 3) := by decide +kernel
theorem d0_53 : decode (mB m0) 53 = .ok (.aload_n 0, 1) := by decide +kernel
theorem d0_54 : decode (mB m0) 54 = .ok (.bipush 32, 2) := by decide +kernel
theorem d0_56 : decode (mB m0) 56 = .ok (.newarray .int, 2) := by decide +kernel
theorem d0_58 : decode (mB m0) 58 = .ok (.putfield 35, 3) := by decide +kernel
theorem d0_61 : decode (mB m0) 61 = .ok (.aload_n 0, 1) := by decide +kernel
theorem d0_62 : decode (mB m0) 62 = .ok (.bipush 32, 2) := by decide +kernel
theorem d0_64 : decode (mB m0) 64 = .ok (.newarray .int, 2) := by decide +kernel
theorem d0_66 : decode (mB m0) 66 = .ok (.putfield 38, 3) := by decide +kernel
theorem d0_69 : decode (mB m0) 69 = .ok (.aload_n 0, 1) := by decide +kernel
theorem d0_70 : decode (mB m0) 70 = .ok (.bipush 32, 2) := by decide +kernel
theorem d0_72 : decode (mB m0) 72 = .ok (.newarray .int, 2) := by decide +kernel
theorem d0_74 : decode (mB m0) 74 = .ok (.putfield 41, 3) := by decide +kernel
theorem d0_77 : decode (mB m0) 77 = .ok (.aload_n 0, 1) := by decide +kernel
theorem d0_78 : decode (mB m0) 78 = .ok (.bipush 32, 2) := by decide +kernel
theorem d0_80 : decode (mB m0) 80 = .ok (.newarray .int, 2) := by decide +kernel
theorem d0_82 : decode (mB m0) 82 = .ok (.putfield 44, 3) := by decide +kernel
theorem d0_85 : decode (mB m0) 85 = .ok (.aload_n 0, 1) := by decide +kernel
theorem d0_86 : decode (mB m0) 86 = .ok (.bipush 32, 2) := by decide +kernel
theorem d0_88 : decode (mB m0) 88 = .ok (.newarray .int, 2) := by decide +kernel
theorem d0_90 : decode (mB m0) 90 = .ok (.putfield 47, 3) := by decide +kernel
theorem d0_93 : decode (mB m0) 93 = .ok (.aload_n 0, 1) := by decide +kernel
theorem d0_94 : decode (mB m0) 94 = .ok (.bipush 32, 2) := by decide +kernel
theorem d0_96 : decode (mB m0) 96 = .ok (.newarray .int, 2) := by decide +kernel
theorem d0_98 : decode (mB m0) 98 = .ok (.putfield 50, 3) := by decide +kernel
theorem d0_101 : decode (mB m0) 101 = .ok (.aload_n 0, 1) := by decide +kernel
theorem d0_102 : decode (mB m0) 102 = .ok (.iconst 4, 1) := by decide +kernel
theorem d0_103 : decode (mB m0) 103 = .ok (.newarray .int, 2) := by decide +kernel
theorem d0_105 : decode (mB m0) 105 = .ok (.putfield 53, 3) := by decide +kernel
theorem d0_108 : decode (mB m0) 108 = .ok (.aload_n 0, 1) := by decide +kernel
theorem d0_109 : decode (mB m0) 109 = .ok (.iconst 4, 1) := by decide +kernel
theorem d0_110 : decode (mB m0) 110 = .ok (.newarray .boolean, 2) := by decide +kernel
theorem d0_112 : decode (mB m0) 112 = .ok (.putfield 56, 3) := by decide +kernel
theorem d0_115 : decode (mB m0) 115 = .ok (.aload_n 0, 1) := by decide +kernel
theorem d0_116 : decode (mB m0) 116 = .ok (.bipush 64, 2) := by decide +kernel
theorem d0_118 : decode (mB m0) 118 = .ok (.newarray .int, 2) := by decide +kernel
theorem d0_120 : decode (mB m0) 120 = .ok (.putfield 60, 3) := by decide +kernel
theorem d0_123 : decode (mB m0) 123 = .ok (.aload_n 0, 1) := by decide +kernel
theorem d0_124 : decode (mB m0) 124 = .ok (.bipush 64, 2) := by decide +kernel
theorem d0_126 : decode (mB m0) 126 = .ok (.newarray .int, 2) := by decide +kernel
theorem d0_128 : decode (mB m0) 128 = .ok (.putfield 63, 3) := by decide +kernel
theorem d0_131 : decode (mB m0) 131 = .ok (.aload_n 0, 1) := by decide +kernel
theorem d0_132 : decode (mB m0) 132 = .ok (.bipush 32, 2) := by decide +kernel
theorem d0_134 : decode (mB m0) 134 = .ok (.newarray .int, 2) := by decide +kernel
theorem d0_136 : decode (mB m0) 136 = .ok (.putfield 66, 3) := by decide +kernel
theorem d0_139 : decode (mB m0) 139 = .ok (.aload_n 0, 1) := by decide +kernel
theorem d0_140 : decode (mB m0) 140 = .ok (.bipush 8, 2) := by decide +kernel
theorem d0_142 : decode (mB m0) 142 = .ok (.newarray .int, 2) := by decide +kernel
theorem d0_144 : decode (mB m0) 144 = .ok (.putfield 69, 3) := by decide +kernel
theorem d0_147 : decode (mB m0) 147 = .ok (.aload_n 0, 1) := by decide +kernel
theorem d0_148 : decode (mB m0) 148 = .ok (.bipush 32, 2) := by decide +kernel
theorem d0_150 : decode (mB m0) 150 = .ok (.newarray .int, 2) := by decide +kernel
theorem d0_152 : decode (mB m0) 152 = .ok (.putfield 72, 3) := by decide +kernel
theorem d0_155 : decode (mB m0) 155 = .ok (.aload_n 0, 1) := by decide +kernel
theorem d0_156 : decode (mB m0) 156 = .ok (.bipush 32, 2) := by decide +kernel
theorem d0_158 : decode (mB m0) 158 = .ok (.newarray .boolean, 2) := by decide +kernel
theorem d0_160 : decode (mB m0) 160 = .ok (.putfield 75, 3) := by decide +kernel
theorem d0_163 : decode (mB m0) 163 = .ok (.aload_n 0, 1) := by decide +kernel
theorem d0_164 : decode (mB m0) 164 = .ok (.bipush 32, 2) := by decide +kernel
theorem d0_166 : decode (mB m0) 166 = .ok (.newarray .int, 2) := by decide +kernel
theorem d0_168 : decode (mB m0) 168 = .ok (.putfield 78, 3) := by decide +kernel
theorem d0_171 : decode (mB m0) 171 = .ok (.aload_n 0, 1) := by decide +kernel
theorem d0_172 : decode (mB m0) 172 = .ok (.bipush 33, 2) := by decide +kernel
theorem d0_174 : decode (mB m0) 174 = .ok (.newarray .int, 2) := by decide +kernel
theorem d0_176 : decode (mB m0) 176 = .ok (.putfield 81, 3) := by decide +kernel
theorem d0_179 : decode (mB m0) 179 = .ok (.aload_n 0, 1) := by decide +kernel
theorem d0_180 : decode (mB m0) 180 = .ok (.bipush 33, 2) := by decide +kernel
theorem d0_182 : decode (mB m0) 182 = .ok (.newarray .int, 2) := by decide +kernel
theorem d0_184 : decode (mB m0) 184 = .ok (.putfield 84, 3) := by decide +kernel
theorem d0_187 : decode (mB m0) 187 = .ok (.aload_n 0, 1) := by decide +kernel
theorem d0_188 : decode (mB m0) 188 = .ok (.bipush 33, 2) := by decide +kernel
theorem d0_190 : decode (mB m0) 190 = .ok (.newarray .int, 2) := by decide +kernel
theorem d0_192 : decode (mB m0) 192 = .ok (.putfield 87, 3) := by decide +kernel
theorem d0_195 : decode (mB m0) 195 = .ok (.aload_n 0, 1) := by decide +kernel
theorem d0_196 : decode (mB m0) 196 = .ok (.bipush 33, 2) := by decide +kernel
theorem d0_198 : decode (mB m0) 198 = .ok (.newarray .int, 2) := by decide +kernel
theorem d0_200 : decode (mB m0) 200 = .ok (.putfield 90, 3) := by decide +kernel
theorem d0_203 : decode (mB m0) 203 = .ok (.aload_n 0, 1) := by decide +kernel
theorem d0_204 : decode (mB m0) 204 = .ok (.bipush 33, 2) := by decide +kernel
theorem d0_206 : decode (mB m0) 206 = .ok (.newarray .int, 2) := by decide +kernel
theorem d0_208 : decode (mB m0) 208 = .ok (.putfield 93, 3) := by decide +kernel
theorem d0_211 : decode (mB m0) 211 = .ok (.aload_n 0, 1) := by decide +kernel
theorem d0_212 : decode (mB m0) 212 = .ok (.bipush 33, 2) := by decide +kernel
theorem d0_214 : decode (mB m0) 214 = .ok (.newarray .int, 2) := by decide +kernel
theorem d0_216 : decode (mB m0) 216 = .ok (.putfield 96, 3) := by decide +kernel
theorem d0_219 : decode (mB m0) 219 = .ok (.iload_n 1, 1) := by decide +kernel
theorem d0_220 : decode (mB m0) 220 = .ok (.istore_n 2, 1) := by decide +kernel
theorem d0_221 : decode (mB m0) 221 = .ok (.iload_n 2, 1) := by decide +kernel
theorem d0_222 : decode (mB m0) 222 = .ok (.bipush 16, 2) := by decide +kernel
theorem d0_224 : decode (mB m0) 224 = .ok (.if_icmp .ge 6, 3) := by decide +kernel
theorem d0_227 : decode (mB m0) 227 = .ok (.bipush 16, 2) := by decide +kernel
theorem d0_229 : decode (mB m0) 229 = .ok (.istore_n 2, 1) := by decide +kernel
theorem d0_230 : decode (mB m0) 230 = .ok (.iload_n 2, 1) := by decide +kernel
theorem d0_231 : decode (mB m0) 231 = .ok (.bipush 64, 2) := by decide +kernel
theorem d0_233 : decode (mB m0) 233 = .ok (.if_icmp .le 6, 3) := by decide +kernel
theorem d0_236 : decode (mB m0) 236 = .ok (.bipush 64, 2) := by decide +kernel
theorem d0_238 : decode (mB m0) 238 = .ok (.istore_n 2, 1) := by decide +kernel
theorem d0_239 : decode (mB m0) 239 = .ok (.aload_n 0, 1) := by decide +kernel
theorem d0_240 : decode (mB m0) 240 = .ok (.iload_n 2, 1) := by decide +kernel
theorem d0_241 : decode (mB m0) 241 = .ok (.putfield 99, 3) := by decide +kernel
theorem d0_244 : decode (mB m0) 244 = .ok (.aload_n 0, 1) := by decide +kernel
theorem d0_245 : decode (mB m0) 245 = .ok (.iconst 0, 1) := by decide +kernel
theorem d0_246 : decode (mB m0) 246 = .ok (.putfield 102, 3) := by decide +kernel
theorem d0_249 : decode (mB m0) 249 = .ok (.aload_n 0, 1) := by decide +kernel
theorem d0_250 : decode (mB m0) 250 = .ok (.iconst 0, 1) := by decide +kernel
theorem d0_251 : decode (mB m0) 251 = .ok (.putfield 105, 3) := by decide +kernel
theorem d0_254 : decode (mB m0) 254 = .ok (.aload_n 0, 1) := by decide +kernel
theorem d0_255 : decode (mB m0) 255 = .ok (.iconst 0, 1) := by decide +kernel
theorem d0_256 : decode (mB m0) 256 = .ok (.putfield 109, 3) := by decide +kernel
theorem d0_259 : decode (mB m0) 259 = .ok (.aload_n 0, 1) := by decide +kernel
theorem d0_260 : decode (mB m0) 260 = .ok (.iconst 0, 1) := by decide +kernel
theorem d0_261 : decode (mB m0) 261 = .ok (.putfield 112, 3) := by decide +kernel
theorem d0_264 : decode (mB m0) 264 = .ok (.aload_n 0, 1) := by decide +kernel
theorem d0_265 : decode (mB m0) 265 = .ok (.iconst 0, 1) := by decide +kernel
theorem d0_266 : decode (mB m0) 266 = .ok (.putfield 115, 3) := by decide +kernel
theorem d0_269 : decode (mB m0) 269 = .ok (.return_, 1) := by decide +kernel
theorem d1_0 : decode (mB m1) 0 = .ok (.aload_n 0, 1) := by decide +kernel
theorem d1_1 : decode (mB m1) 1 = .ok (.iconst 0, 1) := by decide +kernel
theorem d1_2 : decode (mB m1) 2 = .ok (.putfield 136, 3) := by decide +kernel
theorem d1_5 : decode (mB m1) 5 = .ok (.aload_n 0, 1) := by decide +kernel
theorem d1_6 : decode (mB m1) 6 = .ok (.iconst 0, 1) := by decide +kernel
theorem d1_7 : decode (mB m1) 7 = .ok (.putfield 139, 3) := by decide +kernel
theorem d1_10 : decode (mB m1) 10 = .ok (.iconst 0, 1) := by decide +kernel
theorem d1_11 : decode (mB m1) 11 = .ok (.istore_n 1, 1) := by decide +kernel
theorem d1_12 : decode (mB m1) 12 = .ok (.iload_n 1, 1) := by decide +kernel
theorem d1_13 : decode (mB m1) 13 = .ok (.aload_n 0, 1) := by decide +kernel
theorem d1_14 : decode (mB m1) 14 = .ok (.getfield 102, 3) := by decide +kernel
theorem d1_17 : decode (mB m1) 17 = .ok (.if_icmp .ge 27, 3) := by decide +kernel
theorem d1_20 : decode (mB m1) 20 = .ok (.iload_n 1, 1) := by decide +kernel
theorem d1_21 : decode (mB m1) 21 = .ok (.bipush 32, 2) := by decide +kernel
theorem d1_23 : decode (mB m1) 23 = .ok (.if_icmp .ge 21, 3) := by decide +kernel
theorem d1_26 : decode (mB m1) 26 = .ok (.aload_n 0, 1) := by decide +kernel
theorem d1_27 : decode (mB m1) 27 = .ok (.iload_n 1, 1) := by decide +kernel
theorem d1_44 : decode (mB m1) 44 = .ok (.aload_n 0, 1) := by decide +kernel
theorem d1_45 : decode (mB m1) 45 = .ok (.getfield 136, 3) := by decide +kernel
theorem d1_48 : decode (mB m1) 48 = .ok (.ifCond .le 6, 3) := by decide +kernel
theorem d1_51 : decode (mB m1) 51 = .ok (.bipush (-6), 2) := by decide +kernel
theorem d1_53 : decode (mB m1) 53 = .ok (.ireturn, 1) := by decide +kernel
theorem d1_54 : decode (mB m1) 54 = .ok (.aload_n 0, 1) := by decide +kernel
theorem d1_55 : decode (mB m1) 55 = .ok (.iconst 1, 1) := by decide +kernel
theorem d1_56 : decode (mB m1) 56 = .ok (.putfield 105, 3) := by decide +kernel
theorem d1_59 : decode (mB m1) 59 = .ok (.iconst 0, 1) := by decide +kernel
theorem d1_60 : decode (mB m1) 60 = .ok (.ireturn, 1) := by decide +kernel
theorem d2_0 : decode (mB m2) 0 = .ok (.aload_n 0, 1) := by decide +kernel
theorem d2_1 : decode (mB m2) 1 = .ok (.getfield 105, 3) := by decide +kernel
theorem d2_4 : decode (mB m2) 4 = .ok (.ireturn, 1) := by decide +kernel
theorem d3_0 : decode (mB m3) 0 = .ok (.iload_n 0, 1) := by decide +kernel
theorem d3_1 : decode (mB m3) 1 = .ok (.ifCond .lt 13, 3) := by decide +kernel
theorem d3_4 : decode (mB m3) 4 = .ok (.iload_n 0, 1) := by decide +kernel
theorem d3_5 : decode (mB m3) 5 = .ok (.bipush 7, 2) := by decide +kernel
theorem d3_7 : decode (mB m3) 7 = .ok (.if_icmp .gt 7, 3) := by decide +kernel
theorem d3_10 : decode (mB m3) 10 = .ok (.iconst 1, 1) := by decide +kernel
theorem d3_11 : decode (mB m3) 11 = .ok (.goto 4, 3) := by decide +kernel
theorem d3_14 : decode (mB m3) 14 = .ok (.iconst 0, 1) := by decide +kernel
theorem d3_15 : decode (mB m3) 15 = .ok (.ireturn, 1) := by decide +kernel
theorem d4_0 : decode (mB m4) 0 = .ok (.iload_n 0, 1) := by decide +kernel
theorem d4_1 : decode (mB m4) 1 = .ok (.ifCond .lt 13, 3) := by decide +kernel
theorem d4_4 : decode (mB m4) 4 = .ok (.iload_n 0, 1) := by decide +kernel
theorem d4_5 : decode (mB m4) 5 = .ok (.bipush 15, 2) := by decide +kernel
theorem d4_7 : decode (mB m4) 7 = .ok (.if_icmp .gt 7, 3) := by decide +kernel
theorem d4_10 : decode (mB m4) 10 = .ok (.iconst 1, 1) := by decide +kernel
theorem d4_11 : decode (mB m4) 11 = .ok (.goto 4, 3) := by decide +kernel
theorem d4_14 : decode (mB m4) 14 = .ok (.iconst 0, 1) := by decide +kernel
theorem d4_15 : decode (mB m4) 15 = .ok (.ireturn, 1) := by decide +kernel
theorem d5_0 : decode (mB m5) 0 = .ok (.iload_n 1, 1) := by decide +kernel
theorem d5_1 : decode (mB m5) 1 = .ok (.bipush 9, 2) := by decide +kernel
theorem d5_3 : decode (mB m5) 3 = .ok (.if_icmp .eq 9, 3) := by decide +kernel
theorem d5_6 : decode (mB m5) 6 = .ok (.iload_n 1, 1) := by decide +kernel
theorem d5_7 : decode (mB m5) 7 = .ok (.bipush 10, 2) := by decide +kernel
theorem d5_9 : decode (mB m5) 9 = .ok (.if_icmp .ne 5, 3) := by decide +kernel
theorem d5_12 : decode (mB m5) 12 = .ok (.iconst 0, 1) := by decide +kernel
theorem d5_13 : decode (mB m5) 13 = .ok (.ireturn, 1) := by decide +kernel
theorem d5_14 : decode (mB m5) 14 = .ok (.iconst 1, 1) := by decide +kernel
theorem d5_15 : decode (mB m5) 15 = .ok (.ireturn, 1) := by decide +kernel
theorem d6_0 : decode (mB m6) 0 = .ok (.iload_n 1, 1) := by decide +kernel
theorem d6_1 : decode (mB m6) 1 = .ok (.iconst 1, 1) := by decide +kernel
theorem d6_2 : decode (mB m6) 2 = .ok (.if_icmp .ne 5, 3) := by decide +kernel
theorem d6_5 : decode (mB m6) 5 = .ok (.iconst 3, 1) := by decide +kernel
theorem d6_6 : decode (mB m6) 6 = .ok (.ireturn, 1) := by decide +kernel
theorem d6_7 : decode (mB m6) 7 = .ok (.iload_n 1, 1) := by decide +kernel
theorem d6_8 : decode (mB m6) 8 = .ok (.iconst 2, 1) := by decide +kernel
theorem d6_9 : decode (mB m6) 9 = .ok (.if_icmp .eq 13, 3) := by decide +kernel
theorem d6_12 : decode (mB m6) 12 = .ok (.iload_n 1, 1) := by decide +kernel
theorem d6_13 : decode (mB m6) 13 = .ok (.iconst 3, 1) := by decide +kernel
theorem d6_14 : decode (mB m6) 14 = .ok (.if_icmp .eq 8, 3) := by decide +kernel
theorem d6_17 : decode (mB m6) 17 = .ok (.iload_n 1, 1) := by decide +kernel
theorem d6_18 : decode (mB m6) 18 = .ok (.iconst 4, 1) := by decide +kernel
theorem d6_19 : decode (mB m6) 19 = .ok (.if_icmp .ne 5, 3) := by decide +kernel
theorem d6_22 : decode (mB m6) 22 = .ok (.iconst 1, 1) := by decide +kernel
theorem d6_23 : decode (mB m6) 23 = .ok (.ireturn, 1) := by decide +kernel
theorem d6_24 : decode (mB m6) 24 = .ok (.iload_n 1, 1) := by decide +kernel
theorem d6_25 : decode (mB m6) 25 = .ok (.iconst 5, 1) := by decide +kernel
theorem d6_26 : decode (mB m6) 26 = .ok (.if_icmp .ne 5, 3) := by decide +kernel
theorem d6_29 : decode (mB m6) 29 = .ok (.iconst 2, 1) := by decide +kernel
theorem d6_30 : decode (mB m6) 30 = .ok (.ireturn, 1) := by decide +kernel
theorem d6_31 : decode (mB m6) 31 = .ok (.iconst 0, 1) := by decide +kernel
theorem d6_32 : decode (mB m6) 32 = .ok (.ireturn, 1) := by decide +kernel
theorem d7_0 : decode (mB m7) 0 = .ok (.iload_n 1, 1) := by decide +kernel
theorem d7_1 : decode (mB m7) 1 = .ok (.iconst 3, 1) := by decide +kernel
theorem d7_2 : decode (mB m7) 2 = .ok (.if_icmp .ne 5, 3) := by decide +kernel
theorem d7_5 : decode (mB m7) 5 = .ok (.iconst 3, 1) := by decide +kernel
theorem d7_6 : decode (mB m7) 6 = .ok (.ireturn, 1) := by decide +kernel
theorem d7_7 : decode (mB m7) 7 = .ok (.iload_n 1, 1) := by decide +kernel
theorem d7_8 : decode (mB m7) 8 = .ok (.iconst 4, 1) := by decide +kernel
theorem d7_9 : decode (mB m7) 9 = .ok (.if_icmp .ne 5, 3) := by decide +kernel
theorem d7_12 : decode (mB m7) 12 = .ok (.iconst 2, 1) := by decide +kernel
theorem d7_13 : decode (mB m7) 13 = .ok (.ireturn, 1) := by decide +kernel
theorem d7_14 : decode (mB m7) 14 = .ok (.iload_n 1, 1) := by decide +kernel
theorem d7_15 : decode (mB m7) 15 = .ok (.iconst 5, 1) := by decide +kernel
theorem d7_16 : decode (mB m7) 16 = .ok (.if_icmp .ne 5, 3) := by decide +kernel
theorem d7_19 : decode (mB m7) 19 = .ok (.iconst 1, 1) := by decide +kernel
theorem d7_20 : decode (mB m7) 20 = .ok (.ireturn, 1) := by decide +kernel
theorem d7_21 : decode (mB m7) 21 = .ok (.iconst 0, 1) := by decide +kernel
theorem d7_22 : decode (mB m7) 22 = .ok (.ireturn, 1) := by decide +kernel
theorem d8_0 : decode (mB m8) 0 = .ok (.iload_n 1, 1) := by decide +kernel
theorem d8_1 : decode (mB m8) 1 = .ok (.iconst 1, 1) := by decide +kernel
theorem d8_2 : decode (mB m8) 2 = .ok (.if_icmp .ne 19, 3) := by decide +kernel
theorem d8_5 : decode (mB m8) 5 = .ok (.iload_n 2, 1) := by decide +kernel
theorem d8_6 : decode (mB m8) 6 = .ok (.ifCond .lt 13, 3) := by decide +kernel
theorem d8_9 : decode (mB m8) 9 = .ok (.iload_n 2, 1) := by decide +kernel
theorem d8_10 : decode (mB m8) 10 = .ok (.bipush 7, 2) := by decide +kernel
theorem d8_12 : decode (mB m8) 12 = .ok (.if_icmp .gt 7, 3) := by decide +kernel
theorem d8_15 : decode (mB m8) 15 = .ok (.iconst 1, 1) := by decide +kernel
theorem d8_16 : decode (mB m8) 16 = .ok (.goto 4, 3) := by decide +kernel
theorem d8_19 : decode (mB m8) 19 = .ok (.iconst 0, 1) := by decide +kernel
theorem d8_20 : decode (mB m8) 20 = .ok (.ireturn, 1) := by decide +kernel
theorem d8_21 : decode (mB m8) 21 = .ok (.iload_n 1, 1) := by decide +kernel
theorem d8_22 : decode (mB m8) 22 = .ok (.iconst 2, 1) := by decide +kernel
theorem d8_23 : decode (mB m8) 23 = .ok (.if_icmp .ne 19, 3) := by decide +kernel
theorem d8_26 : decode (mB m8) 26 = .ok (.iload_n 2, 1) := by decide +kernel
theorem d8_27 : decode (mB m8) 27 = .ok (.ifCond .lt 13, 3) := by decide +kernel
theorem d8_30 : decode (mB m8) 30 = .ok (.iload_n 2, 1) := by decide +kernel
theorem d8_31 : decode (mB m8) 31 = .ok (.bipush 15, 2) := by decide +kernel
theorem d8_33 : decode (mB m8) 33 = .ok (.if_icmp .gt 7, 3) := by decide +kernel
theorem d8_36 : decode (mB m8) 36 = .ok (.iconst 1, 1) := by decide +kernel
theorem d8_37 : decode (mB m8) 37 = .ok (.goto 4, 3) := by decide +kernel
theorem d8_40 : decode (mB m8) 40 = .ok (.iconst 0, 1) := by decide +kernel
theorem d8_41 : decode (mB m8) 41 = .ok (.ireturn, 1) := by decide +kernel
theorem d8_42 : decode (mB m8) 42 = .ok (.iconst 1, 1) := by decide +kernel
theorem d8_43 : decode (mB m8) 43 = .ok (.ireturn, 1) := by decide +kernel
theorem d9_0 : decode (mB m9) 0 = .ok (.iload_n 1, 1) := by decide +kernel
theorem d9_1 : decode (mB m9) 1 = .ok (.ifCond .ne 5, 3) := by decide +kernel
theorem d9_4 : decode (mB m9) 4 = .ok (.iconst 0, 1) := by decide +kernel
theorem d9_5 : decode (mB m9) 5 = .ok (.ireturn, 1) := by decide +kernel
theorem d9_6 : decode (mB m9) 6 = .ok (.iload_n 2, 1) := by decide +kernel
theorem d9_7 : decode (mB m9) 7 = .ok (.ireturn, 1) := by decide +kernel
theorem d10_0 : decode (mB m10) 0 = .ok (.aload_n 0, 1) := by decide +kernel
theorem d10_1 : decode (mB m10) 1 = .ok (.getfield 102, 3) := by decide +kernel
theorem d10_4 : decode (mB m10) 4 = .ok (.bipush 32, 2) := by decide +kernel
theorem d10_6 : decode (mB m10) 6 = .ok (.if_icmp .lt 5, 3) := by decide +kernel
theorem d10_9 : decode (mB m10) 9 = .ok (.iconst (-1), 1) := by decide +kernel
theorem d10_10 : decode (mB m10) 10 = .ok (.ireturn, 1) := by decide +kernel
theorem d10_11 : decode (mB m10) 11 = .ok (.iload_n 1, 1) := by decide +kernel
theorem d10_12 : decode (mB m10) 12 = .ok (.iconst 1, 1) := by decide +kernel
theorem d10_13 : decode (mB m10) 13 = .ok (.if_icmp .lt 9, 3) := by decide +kernel
theorem d10_16 : decode (mB m10) 16 = .ok (.iload_n 1, 1) := by decide +kernel
theorem d10_17 : decode (mB m10) 17 = .ok (.bipush 12, 2) := by decide +kernel
theorem d10_19 : decode (mB m10) 19 = .ok (.if_icmp .le 6, 3) := by decide +kernel
theorem d10_22 : decode (mB m10) 22 = .ok (.bipush (-2), 2) := by decide +kernel
theorem d10_24 : decode (mB m10) 24 = .ok (.ireturn, 1) := by decide +kernel
theorem d10_25 : decode (mB m10) 25 = .ok (.aload_n 0, 1) := by decide +kernel
theorem d10_26 : decode (mB m10) 26 = .ok (.iload_n 1, 1) := by decide +kernel
theorem d10_27 : decode (mB m10) 27 = .ok (.invokevirtual 118, 3) := by decide +kernel
theorem d10_30 : decode (mB m10) 30 = .ok (.istore 5, 2) := by decide +kernel
theorem d10_32 : decode (mB m10) 32 = .ok (.aload_n 0, 1) := by decide +kernel
theorem d10_33 : decode (mB m10) 33 = .ok (.iload_n 1, 1) := by decide +kernel
theorem d10_34 : decode (mB m10) 34 = .ok (.invokevirtual 122, 3) := by decide +kernel
theorem d10_37 : decode (mB m10) 37 = .ok (.istore 6, 2) := by decide +kernel
theorem d10_39 : decode (mB m10) 39 = .ok (.aload_n 0, 1) := by decide +kernel
theorem d10_40 : decode (mB m10) 40 = .ok (.iload_n 1, 1) := by decide +kernel
theorem d10_41 : decode (mB m10) 41 = .ok (.invokevirtual 125, 3) := by decide +kernel
theorem d10_44 : decode (mB m10) 44 = .ok (.istore 7, 2) := by decide +kernel
theorem d10_46 : decode (mB m10) 46 = .ok (.aload_n 0, 1) := by decide +kernel
theorem d10_47 : decode (mB m10) 47 = .ok (.iload 5, 2) := by decide +kernel
theorem d10_49 : decode (mB m10) 49 = .ok (.iload_n 2, 1) := by decide +kernel
theorem d10_50 : decode (mB m10) 50 = .ok (.invokevirtual 128, 3) := by decide +kernel
theorem d10_53 : decode (mB m10) 53 = .ok (.ifCond .eq 24, 3) := by decide +kernel
theorem d10_56 : decode (mB m10) 56 = .ok (.aload_n 0, 1) := by decide +kernel
theorem d10_57 : decode (mB m10) 57 = .ok (.iload 6, 2) := by decide +kernel
theorem d10_59 : decode (mB m10) 59 = .ok (.iload_n 3, 1) := by decide +kernel
theorem d10_60 : decode (mB m10) 60 = .ok (.invokevirtual 128, 3) := by decide +kernel
theorem d10_63 : decode (mB m10) 63 = .ok (.ifCond .eq 14, 3) := by decide +kernel
theorem d10_66 : decode (mB m10) 66 = .ok (.aload_n 0, 1) := by decide +kernel
theorem d10_67 : decode (mB m10) 67 = .ok (.iload 7, 2) := by decide +kernel
theorem d10_69 : decode (mB m10) 69 = .ok (.iload 4, 2) := by decide +kernel
theorem d10_71 : decode (mB m10) 71 = .ok (.invokevirtual 128, 3) := by decide +kernel
theorem d10_74 : decode (mB m10) 74 = .ok (.ifCond .ne 6, 3) := by decide +kernel
theorem d10_77 : decode (mB m10) 77 = .ok (.bipush (-3), 2) := by decide +kernel
theorem d10_79 : decode (mB m10) 79 = .ok (.ireturn, 1) := by decide +kernel
theorem d10_80 : decode (mB m10) 80 = .ok (.aload_n 0, 1) := by decide +kernel
theorem d10_81 : decode (mB m10) 81 = .ok (.getfield 102, 3) := by decide +kernel
theorem d10_84 : decode (mB m10) 84 = .ok (.istore 8, 2) := by decide +kernel
theorem d10_86 : decode (mB m10) 86 = .ok (.aload_n 0, 1) := by decide +kernel
theorem d10_87 : decode (mB m10) 87 = .ok (.getfield 31, 3) := by decide +kernel
theorem d10_90 : decode (mB m10) 90 = .ok (.iload 8, 2) := by decide +kernel
theorem d10_92 : decode (mB m10) 92 = .ok (.iload_n 1, 1) := by decide +kernel
theorem d10_93 : decode (mB m10) 93 = .ok (.iastore, 1) := by decide +kernel
theorem d10_94 : decode (mB m10) 94 = .ok (.aload_n 0, 1) := by decide +kernel
theorem d10_95 : decode (mB m10) 95 = .ok (.getfield 35, 3) := by decide +kernel
theorem d10_98 : decode (mB m10) 98 = .ok (.iload 8, 2) := by decide +kernel
theorem d10_100 : decode (mB m10) 100 = .ok (.aload_n 0, 1) := by decide +kernel
theorem d10_101 : decode (mB m10) 101 = .ok (.iload 5, 2) := by decide +kernel
theorem d10_103 : decode (mB m10) 103 = .ok (.iload_n 2, 1) := by decide +kernel
theorem d10_104 : decode (mB m10) 104 = .ok (.invokevirtual 132, 3) := by decide +kernel
theorem d10_107 : decode (mB m10) 107 = .ok (.iastore, 1) := by decide +kernel
theorem d10_108 : decode (mB m10) 108 = .ok (.aload_n 0, 1) := by decide +kernel
theorem d10_109 : decode (mB m10) 109 = .ok (.getfield 38, 3) := by decide +kernel
theorem d10_112 : decode (mB m10) 112 = .ok (.iload 8, 2) := by decide +kernel
theorem d10_114 : decode (mB m10) 114 = .ok (.aload_n 0, 1) := by decide +kernel
theorem d10_115 : decode (mB m10) 115 = .ok (.iload 6, 2) := by decide +kernel
theorem d10_117 : decode (mB m10) 117 = .ok (.iload_n 3, 1) := by decide +kernel
theorem d10_118 : decode (mB m10) 118 = .ok (.invokevirtual 132, 3) := by decide +kernel
theorem d10_121 : decode (mB m10) 121 = .ok (.iastore, 1) := by decide +kernel
theorem d10_122 : decode (mB m10) 122 = .ok (.aload_n 0, 1) := by decide +kernel
theorem d10_123 : decode (mB m10) 123 = .ok (.getfield 41, 3) := by decide +kernel
theorem d10_126 : decode (mB m10) 126 = .ok (.iload 8, 2) := by decide +kernel
theorem d10_128 : decode (mB m10) 128 = .ok (.aload_n 0, 1) := by decide +kernel
theorem d10_129 : decode (mB m10) 129 = .ok (.iload 7, 2) := by decide +kernel
theorem d10_131 : decode (mB m10) 131 = .ok (.iload 4, 2) := by decide +kernel
theorem d10_133 : decode (mB m10) 133 = .ok (.invokevirtual 132, 3) := by decide +kernel
theorem d10_136 : decode (mB m10) 136 = .ok (.iastore, 1) := by decide +kernel
theorem d10_137 : decode (mB m10) 137 = .ok (.aload_n 0, 1) := by decide +kernel
theorem d10_138 : decode (mB m10) 138 = .ok (.iload 8, 2) := by decide +kernel
theorem d10_140 : decode (mB m10) 140 = .ok (.iconst 1, 1) := by decide +kernel
theorem d10_141 : decode (mB m10) 141 = .ok (.iadd, 1) := by decide +kernel
theorem d10_142 : decode (mB m10) 142 = .ok (.putfield 102, 3) := by decide +kernel
theorem d10_145 : decode (mB m10) 145 = .ok (.aload_n 0, 1) := by decide +kernel
theorem d10_146 : decode (mB m10) 146 = .ok (.iconst 0, 1) := by decide +kernel
theorem d10_147 : decode (mB m10) 147 = .ok (.putfield 105, 3) := by decide +kernel
theorem d10_150 : decode (mB m10) 150 = .ok (.iload 8, 2) := by decide +kernel
theorem d10_152 : decode (mB m10) 152 = .ok (.ireturn, 1) := by decide +kernel
theorem d11_0 : decode (mB m11) 0 = .ok (.aload_n 0, 1) := by decide +kernel
theorem d11_1 : decode (mB m11) 1 = .ok (.getfield 102, 3) := by decide +kernel
theorem d11_4 : decode (mB m11) 4 = .ok (.ireturn, 1) := by decide +kernel
theorem d12_0 : decode (mB m12) 0 = .ok (.iload_n 1, 1) := by decide +kernel
theorem d12_1 : decode (mB m12) 1 = .ok (.ifCond .lt 17, 3) := by decide +kernel
theorem d12_4 : decode (mB m12) 4 = .ok (.iload_n 1, 1) := by decide +kernel
theorem d12_5 : decode (mB m12) 5 = .ok (.aload_n 0, 1) := by decide +kernel
theorem d12_6 : decode (mB m12) 6 = .ok (.getfield 102, 3) := by decide +kernel
theorem d12_9 : decode (mB m12) 9 = .ok (.if_icmp .ge 9, 3) := by decide +kernel
theorem d12_12 : decode (mB m12) 12 = .ok (.iload_n 1, 1) := by decide +kernel
theorem d12_13 : decode (mB m12) 13 = .ok (.bipush 32, 2) := by decide +kernel
theorem d12_15 : decode (mB m12) 15 = .ok (.if_icmp .lt 5, 3) := by decide +kernel
theorem d12_18 : decode (mB m12) 18 = .ok (.iconst 0, 1) := by decide +kernel
theorem d12_19 : decode (mB m12) 19 = .ok (.ireturn, 1) := by decide +kernel
theorem d12_20 : decode (mB m12) 20 = .ok (.iload_n 2, 1) := by decide +kernel
theorem d12_21 : decode (mB m12) 21 = .ok (.ifCond .ne 10, 3) := by decide +kernel
theorem d12_24 : decode (mB m12) 24 = .ok (.aload_n 0, 1) := by decide +kernel
theorem d12_25 : decode (mB m12) 25 = .ok (.getfield 31, 3) := by decide +kernel
theorem d12_28 : decode (mB m12) 28 = .ok (.iload_n 1, 1) := by decide +kernel
theorem d12_29 : decode (mB m12) 29 = .ok (.iaload, 1) := by decide +kernel
theorem d12_30 : decode (mB m12) 30 = .ok (.ireturn, 1) := by decide +kernel
theorem d12_31 : decode (mB m12) 31 = .ok (.iload_n 2, 1) := by decide +kernel
theorem d12_32 : decode (mB m12) 32 = .ok (.iconst 1, 1) := by decide +kernel
theorem d12_33 : decode (mB m12) 33 = .ok (.if_icmp .ne 10, 3) := by decide +kernel
theorem d12_36 : decode (mB m12) 36 = .ok (.aload_n 0, 1) := by decide +kernel
theorem d12_37 : decode (mB m12) 37 = .ok (.getfield 35, 3) := by decide +kernel
theorem d12_40 : decode (mB m12) 40 = .ok (.iload_n 1, 1) := by decide +kernel
theorem d12_41 : decode (mB m12) 41 = .ok (.iaload, 1) := by decide +kernel
theorem d12_42 : decode (mB m12) 42 = .ok (.ireturn, 1) := by decide +kernel
theorem d12_43 : decode (mB m12) 43 = .ok (.iload_n 2, 1) := by decide +kernel
theorem d12_44 : decode (mB m12) 44 = .ok (.iconst 2, 1) := by decide +kernel
theorem d12_45 : decode (mB m12) 45 = .ok (.if_icmp .ne 10, 3) := by decide +kernel
theorem d12_48 : decode (mB m12) 48 = .ok (.aload_n 0, 1) := by decide +kernel
theorem d12_49 : decode (mB m12) 49 = .ok (.getfield 38, 3) := by decide +kernel
theorem d12_52 : decode (mB m12) 52 = .ok (.iload_n 1, 1) := by decide +kernel
theorem d12_53 : decode (mB m12) 53 = .ok (.iaload, 1) := by decide +kernel
theorem d12_54 : decode (mB m12) 54 = .ok (.ireturn, 1) := by decide +kernel
theorem d12_55 : decode (mB m12) 55 = .ok (.iload_n 2, 1) := by decide +kernel
theorem d12_56 : decode (mB m12) 56 = .ok (.iconst 3, 1) := by decide +kernel
theorem d12_57 : decode (mB m12) 57 = .ok (.if_icmp .ne 10, 3) := by decide +kernel
theorem d12_60 : decode (mB m12) 60 = .ok (.aload_n 0, 1) := by decide +kernel
theorem d12_61 : decode (mB m12) 61 = .ok (.getfield 41, 3) := by decide +kernel
theorem d12_64 : decode (mB m12) 64 = .ok (.iload_n 1, 1) := by decide +kernel
theorem d12_65 : decode (mB m12) 65 = .ok (.iaload, 1) := by decide +kernel
theorem d12_66 : decode (mB m12) 66 = .ok (.ireturn, 1) := by decide +kernel
theorem d12_67 : decode (mB m12) 67 = .ok (.iconst 0, 1) := by decide +kernel
theorem d12_68 : decode (mB m12) 68 = .ok (.ireturn, 1) := by decide +kernel
theorem d13_0 : decode (mB m13) 0 = .ok (.new 7, 3) := by decide +kernel
theorem d13_3 : decode (mB m13) 3 = .ok (.dup, 1) := by decide +kernel
theorem d13_4 : decode (mB m13) 4 = .ok (.bipush 16, 2) := by decide +kernel
theorem d13_6 : decode (mB m13) 6 = .ok (.invokespecial 9, 3) := by decide +kernel
theorem d13_9 : decode (mB m13) 9 = .ok (.astore 4, 2) := by decide +kernel
theorem d13_11 : decode (mB m13) 11 = .ok (.aload 4, 2) := by decide +kernel
theorem d13_13 : decode (mB m13) 13 = .ok (.invokevirtual 12, 3) := by decide +kernel
theorem d13_16 : decode (mB m13) 16 = .ok (.ifCond .ne 11, 3) := by decide +kernel
theorem d13_19 : decode (mB m13) 19 = .ok (.aload 4, 2) := by decide +kernel
theorem d13_21 : decode (mB m13) 21 = .ok (.invokevirtual 16, 3) := by decide +kernel
theorem d13_24 : decode (mB m13) 24 = .ok (.ifCond .ne 5, 3) := by decide +kernel
theorem d13_27 : decode (mB m13) 27 = .ok (.iconst 0, 1) := by decide +kernel
theorem d13_28 : decode (mB m13) 28 = .ok (.ireturn, 1) := by decide +kernel
theorem d13_29 : decode (mB m13) 29 = .ok (.iconst 0, 1) := by decide +kernel
theorem d13_30 : decode (mB m13) 30 = .ok (.istore 5, 2) := by decide +kernel
theorem d13_32 : decode (mB m13) 32 = .ok (.iconst 0, 1) := by decide +kernel
theorem d13_33 : decode (mB m13) 33 = .ok (.istore 6, 2) := by decide +kernel
theorem d13_35 : decode (mB m13) 35 = .ok (.iconst 0, 1) := by decide +kernel
theorem d13_36 : decode (mB m13) 36 = .ok (.istore 7, 2) := by decide +kernel
theorem d13_38 : decode (mB m13) 38 = .ok (.iload_n 0, 1) := by decide +kernel
theorem d13_39 : decode (mB m13) 39 = .ok (.iconst 1, 1) := by decide +kernel
theorem d13_40 : decode (mB m13) 40 = .ok (.if_icmp .ne 18, 3) := by decide +kernel
theorem d13_43 : decode (mB m13) 43 = .ok (.iload_n 1, 1) := by decide +kernel
theorem d13_44 : decode (mB m13) 44 = .ok (.invokestatic 20, 3) := by decide +kernel
theorem d13_47 : decode (mB m13) 47 = .ok (.istore 8, 2) := by decide +kernel
theorem d13_49 : decode (mB m13) 49 = .ok (.iload_n 1, 1) := by decide +kernel
theorem d13_50 : decode (mB m13) 50 = .ok (.istore 5, 2) := by decide +kernel
theorem d13_52 : decode (mB m13) 52 = .ok (.iload_n 2, 1) := by decide +kernel
theorem d13_53 : decode (mB m13) 53 = .ok (.istore 6, 2) := by decide +kernel
theorem d13_55 : decode (mB m13) 55 = .ok (.goto 193, 3) := by decide +kernel
theorem d13_58 : decode (mB m13) 58 = .ok (.iload_n 0, 1) := by decide +kernel
theorem d13_59 : decode (mB m13) 59 = .ok (.iconst 2, 1) := by decide +kernel
theorem d13_60 : decode (mB m13) 60 = .ok (.if_icmp .ne 33, 3) := by decide +kernel
theorem d13_63 : decode (mB m13) 63 = .ok (.iload_n 1, 1) := by decide +kernel
theorem d13_64 : decode (mB m13) 64 = .ok (.invokestatic 20, 3) := by decide +kernel
theorem d13_67 : decode (mB m13) 67 = .ok (.ifCond .eq 14, 3) := by decide +kernel
theorem d13_70 : decode (mB m13) 70 = .ok (.iload_n 2, 1) := by decide +kernel
theorem d13_71 : decode (mB m13) 71 = .ok (.invokestatic 20, 3) := by decide +kernel
theorem d13_74 : decode (mB m13) 74 = .ok (.ifCond .eq 7, 3) := by decide +kernel
theorem d13_77 : decode (mB m13) 77 = .ok (.iconst 1, 1) := by decide +kernel
theorem d13_78 : decode (mB m13) 78 = .ok (.goto 4, 3) := by decide +kernel
theorem d13_81 : decode (mB m13) 81 = .ok (.iconst 0, 1) := by decide +kernel
theorem d13_82 : decode (mB m13) 82 = .ok (.istore 8, 2) := by decide +kernel
theorem d13_84 : decode (mB m13) 84 = .ok (.iload_n 1, 1) := by decide +kernel
theorem d13_85 : decode (mB m13) 85 = .ok (.istore 5, 2) := by decide +kernel
theorem d13_87 : decode (mB m13) 87 = .ok (.iload_n 2, 1) := by decide +kernel
theorem d13_88 : decode (mB m13) 88 = .ok (.istore 6, 2) := by decide +kernel
theorem d13_90 : decode (mB m13) 90 = .ok (.goto 158, 3) := by decide +kernel
theorem d13_93 : decode (mB m13) 93 = .ok (.iload_n 0, 1) := by decide +kernel
theorem d13_94 : decode (mB m13) 94 = .ok (.iconst 3, 1) := by decide +kernel
theorem d13_95 : decode (mB m13) 95 = .ok (.if_icmp .ne 36, 3) := by decide +kernel
theorem d13_98 : decode (mB m13) 98 = .ok (.iload_n 1, 1) := by decide +kernel
theorem d13_99 : decode (mB m13) 99 = .ok (.invokestatic 20, 3) := by decide +kernel
theorem d13_102 : decode (mB m13) 102 = .ok (.ifCond .eq 14, 3) := by decide +kernel
theorem d13_105 : decode (mB m13) 105 = .ok (.iload_n 2, 1) := by decide +kernel
theorem d13_106 : decode (mB m13) 106 = .ok (.invokestatic 20, 3) := by decide +kernel
theorem d13_109 : decode (mB m13) 109 = .ok (.ifCond .eq 7, 3) := by decide +kernel
theorem d13_112 : decode (mB m13) 112 = .ok (.iconst 1, 1) := by decide +kernel
theorem d13_113 : decode (mB m13) 113 = .ok (.goto 4, 3) := by decide +kernel
theorem d13_116 : decode (mB m13) 116 = .ok (.iconst 0, 1) := by decide +kernel
theorem d13_117 : decode (mB m13) 117 = .ok (.istore 8, 2) := by decide +kernel
theorem d13_119 : decode (mB m13) 119 = .ok (.iload_n 1, 1) := by decide +kernel
theorem d13_120 : decode (mB m13) 120 = .ok (.istore 5, 2) := by decide +kernel
theorem d13_122 : decode (mB m13) 122 = .ok (.iload_n 2, 1) := by decide +kernel
theorem d13_123 : decode (mB m13) 123 = .ok (.istore 6, 2) := by decide +kernel
theorem d13_125 : decode (mB m13) 125 = .ok (.iload_n 3, 1) := by decide +kernel
theorem d13_126 : decode (mB m13) 126 = .ok (.istore 7, 2) := by decide +kernel
theorem d13_128 : decode (mB m13) 128 = .ok (.goto 120, 3) := by decide +kernel
theorem d13_131 : decode (mB m13) 131 = .ok (.iload_n 0, 1) := by decide +kernel
theorem d13_132 : decode (mB m13) 132 = .ok (.iconst 4, 1) := by decide +kernel
theorem d13_133 : decode (mB m13) 133 = .ok (.if_icmp .ne 43, 3) := by decide +kernel
theorem d13_136 : decode (mB m13) 136 = .ok (.iload_n 1, 1) := by decide +kernel
theorem d13_137 : decode (mB m13) 137 = .ok (.invokestatic 20, 3) := by decide +kernel
theorem d13_140 : decode (mB m13) 140 = .ok (.ifCond .eq 21, 3) := by decide +kernel
theorem d13_143 : decode (mB m13) 143 = .ok (.iload_n 2, 1) := by decide +kernel
theorem d13_144 : decode (mB m13) 144 = .ok (.invokestatic 20, 3) := by decide +kernel
theorem d13_147 : decode (mB m13) 147 = .ok (.ifCond .eq 14, 3) := by decide +kernel
theorem d13_150 : decode (mB m13) 150 = .ok (.iload_n 3, 1) := by decide +kernel
theorem d13_151 : decode (mB m13) 151 = .ok (.invokestatic 26, 3) := by decide +kernel
theorem d13_154 : decode (mB m13) 154 = .ok (.ifCond .eq 7, 3) := by decide +kernel
theorem d13_157 : decode (mB m13) 157 = .ok (.iconst 1, 1) := by decide +kernel
theorem d13_158 : decode (mB m13) 158 = .ok (.goto 4, 3) := by decide +kernel
theorem d13_161 : decode (mB m13) 161 = .ok (.iconst 0, 1) := by decide +kernel
theorem d13_162 : decode (mB m13) 162 = .ok (.istore 8, 2) := by decide +kernel
theorem d13_164 : decode (mB m13) 164 = .ok (.iload_n 1, 1) := by decide +kernel
theorem d13_165 : decode (mB m13) 165 = .ok (.istore 5, 2) := by decide +kernel
theorem d13_167 : decode (mB m13) 167 = .ok (.iload_n 2, 1) := by decide +kernel
theorem d13_168 : decode (mB m13) 168 = .ok (.istore 6, 2) := by decide +kernel
theorem d13_170 : decode (mB m13) 170 = .ok (.iload_n 3, 1) := by decide +kernel
theorem d13_171 : decode (mB m13) 171 = .ok (.istore 7, 2) := by decide +kernel
theorem d13_173 : decode (mB m13) 173 = .ok (.goto 75, 3) := by decide +kernel
theorem d13_176 : decode (mB m13) 176 = .ok (.iload_n 0, 1) := by decide +kernel
theorem d13_177 : decode (mB m13) 177 = .ok (.iconst 5, 1) := by decide +kernel
theorem d13_178 : decode (mB m13) 178 = .ok (.if_icmp .ne 43, 3) := by decide +kernel
theorem d13_181 : decode (mB m13) 181 = .ok (.iload_n 1, 1) := by decide +kernel
theorem d13_182 : decode (mB m13) 182 = .ok (.invokestatic 20, 3) := by decide +kernel
theorem d13_185 : decode (mB m13) 185 = .ok (.ifCond .eq 21, 3) := by decide +kernel
theorem d13_188 : decode (mB m13) 188 = .ok (.iload_n 2, 1) := by decide +kernel
theorem d13_189 : decode (mB m13) 189 = .ok (.invokestatic 26, 3) := by decide +kernel
theorem d13_192 : decode (mB m13) 192 = .ok (.ifCond .eq 14, 3) := by decide +kernel
theorem d13_195 : decode (mB m13) 195 = .ok (.iload_n 3, 1) := by decide +kernel
theorem d13_196 : decode (mB m13) 196 = .ok (.invokestatic 20, 3) := by decide +kernel
theorem d13_199 : decode (mB m13) 199 = .ok (.ifCond .eq 7, 3) := by decide +kernel
theorem d13_202 : decode (mB m13) 202 = .ok (.iconst 1, 1) := by decide +kernel
theorem d13_203 : decode (mB m13) 203 = .ok (.goto 4, 3) := by decide +kernel
theorem d13_206 : decode (mB m13) 206 = .ok (.iconst 0, 1) := by decide +kernel
theorem d13_207 : decode (mB m13) 207 = .ok (.istore 8, 2) := by decide +kernel
theorem d13_209 : decode (mB m13) 209 = .ok (.iload_n 1, 1) := by decide +kernel
theorem d13_210 : decode (mB m13) 210 = .ok (.istore 5, 2) := by decide +kernel
theorem d13_212 : decode (mB m13) 212 = .ok (.iload_n 2, 1) := by decide +kernel
theorem d13_213 : decode (mB m13) 213 = .ok (.istore 6, 2) := by decide +kernel
theorem d13_215 : decode (mB m13) 215 = .ok (.iload_n 3, 1) := by decide +kernel
theorem d13_216 : decode (mB m13) 216 = .ok (.istore 7, 2) := by decide +kernel
theorem d13_218 : decode (mB m13) 218 = .ok (.goto 30, 3) := by decide +kernel
theorem d13_221 : decode (mB m13) 221 = .ok (.iload_n 0, 1) := by decide +kernel
theorem d13_222 : decode (mB m13) 222 = .ok (.bipush 9, 2) := by decide +kernel
theorem d13_224 : decode (mB m13) 224 = .ok (.if_icmp .eq 9, 3) := by decide +kernel
theorem d13_227 : decode (mB m13) 227 = .ok (.iload_n 0, 1) := by decide +kernel
theorem d13_228 : decode (mB m13) 228 = .ok (.bipush 10, 2) := by decide +kernel
theorem d13_230 : decode (mB m13) 230 = .ok (.if_icmp .ne 9, 3) := by decide +kernel
theorem d13_233 : decode (mB m13) 233 = .ok (.iconst 1, 1) := by decide +kernel
theorem d13_234 : decode (mB m13) 234 = .ok (.istore 8, 2) := by decide +kernel
theorem d13_236 : decode (mB m13) 236 = .ok (.goto 12, 3) := by decide +kernel
theorem d13_239 : decode (mB m13) 239 = .ok (.iload_n 1, 1) := by decide +kernel
theorem d13_240 : decode (mB m13) 240 = .ok (.invokestatic 20, 3) := by decide +kernel
theorem d13_243 : decode (mB m13) 243 = .ok (.istore 8, 2) := by decide +kernel
theorem d13_245 : decode (mB m13) 245 = .ok (.iload_n 1, 1) := by decide +kernel
theorem d13_246 : decode (mB m13) 246 = .ok (.istore 5, 2) := by decide +kernel
theorem d13_248 : decode (mB m13) 248 = .ok (.iload_n 0, 1) := by decide +kernel
theorem d13_249 : decode (mB m13) 249 = .ok (.iconst 1, 1) := by decide +kernel
theorem d13_250 : decode (mB m13) 250 = .ok (.if_icmp .lt 9, 3) := by decide +kernel
theorem d13_253 : decode (mB m13) 253 = .ok (.iload_n 0, 1) := by decide +kernel
theorem d13_254 : decode (mB m13) 254 = .ok (.bipush 12, 2) := by decide +kernel
theorem d13_256 : decode (mB m13) 256 = .ok (.if_icmp .le 8, 3) := by decide +kernel
theorem d13_259 : decode (mB m13) 259 = .ok (.bipush (-2), 2) := by decide +kernel
theorem d13_261 : decode (mB m13) 261 = .ok (.goto 14, 3) := by decide +kernel
theorem d13_264 : decode (mB m13) 264 = .ok (.iload 8, 2) := by decide +kernel
theorem d13_266 : decode (mB m13) 266 = .ok (.ifCond .eq 7, 3) := by decide +kernel
theorem d13_269 : decode (mB m13) 269 = .ok (.iconst 0, 1) := by decide +kernel
theorem d13_270 : decode (mB m13) 270 = .ok (.goto 5, 3) := by decide +kernel
theorem d13_273 : decode (mB m13) 273 = .ok (.bipush (-3), 2) := by decide +kernel
theorem d13_275 : decode (mB m13) 275 = .ok (.istore 9, 2) := by decide +kernel
theorem d13_277 : decode (mB m13) 277 = .ok (.iload 9, 2) := by decide +kernel
theorem d13_279 : decode (mB m13) 279 = .ok (.ifCond .ne 7, 3) := by decide +kernel
theorem d13_282 : decode (mB m13) 282 = .ok (.iconst 1, 1) := by decide +kernel
theorem d13_283 : decode (mB m13) 283 = .ok (.goto 4, 3) := by decide +kernel
theorem d13_286 : decode (mB m13) 286 = .ok (.iconst 0, 1) := by decide +kernel
theorem d13_287 : decode (mB m13) 287 = .ok (.istore 10, 2) := by decide +kernel
theorem d13_289 : decode (mB m13) 289 = .ok (.aload 4, 2) := by decide +kernel
theorem d13_291 : decode (mB m13) 291 = .ok (.iload_n 0, 1) := by decide +kernel
theorem d13_292 : decode (mB m13) 292 = .ok (.iload_n 1, 1) := by decide +kernel
theorem d13_293 : decode (mB m13) 293 = .ok (.iload_n 2, 1) := by decide +kernel
theorem d13_294 : decode (mB m13) 294 = .ok (.iload_n 3, 1) := by decide +kernel
theorem d13_295 : decode (mB m13) 295 = .ok (.invokevirtual 29, 3) := by decide +kernel
theorem d13_298 : decode (mB m13) 298 = .ok (.iload 9, 2) := by decide +kernel
theorem d13_300 : decode (mB m13) 300 = .ok (.if_icmp .eq 5, 3) := by decide +kernel
theorem d13_303 : decode (mB m13) 303 = .ok (.iconst 0, 1) := by decide +kernel
theorem d13_304 : decode (mB m13) 304 = .ok (.ireturn, 1) := by decide +kernel
theorem d13_305 : decode (mB m13) 305 = .ok (.aload 4, 2) := by decide +kernel
theorem d13_307 : decode (mB m13) 307 = .ok (.invokevirtual 33, 3) := by decide +kernel
theorem d13_310 : decode (mB m13) 310 = .ok (.iload 10, 2) := by decide +kernel
theorem d13_312 : decode (mB m13) 312 = .ok (.ifCond .eq 7, 3) := by decide +kernel
theorem d13_315 : decode (mB m13) 315 = .ok (.iconst 1, 1) := by decide +kernel
theorem d13_316 : decode (mB m13) 316 = .ok (.goto 4, 3) := by decide +kernel
theorem d13_319 : decode (mB m13) 319 = .ok (.iconst 0, 1) := by decide +kernel
theorem d13_320 : decode (mB m13) 320 = .ok (.if_icmp .ne 13, 3) := by decide +kernel
theorem d13_323 : decode (mB m13) 323 = .ok (.aload 4, 2) := by decide +kernel
theorem d13_325 : decode (mB m13) 325 = .ok (.invokevirtual 16, 3) := by decide +kernel
theorem d13_328 : decode (mB m13) 328 = .ok (.iload 10, 2) := by decide +kernel
theorem d13_330 : decode (mB m13) 330 = .ok (.if_icmp .ne 5, 3) := by decide +kernel
theorem d13_333 : decode (mB m13) 333 = .ok (.iconst 0, 1) := by decide +kernel
theorem d13_334 : decode (mB m13) 334 = .ok (.ireturn, 1) := by decide +kernel
theorem d13_335 : decode (mB m13) 335 = .ok (.aload 4, 2) := by decide +kernel
theorem d13_337 : decode (mB m13) 337 = .ok (.iconst 0, 1) := by decide +kernel
theorem d13_338 : decode (mB m13) 338 = .ok (.iconst 0, 1) := by decide +kernel
theorem d13_339 : decode (mB m13) 339 = .ok (.invokevirtual 36, 3) := by decide +kernel
theorem d13_342 : decode (mB m13) 342 = .ok (.iload 10, 2) := by decide +kernel
theorem d13_344 : decode (mB m13) 344 = .ok (.ifCond .eq 7, 3) := by decide +kernel
theorem d13_347 : decode (mB m13) 347 = .ok (.iload_n 0, 1) := by decide +kernel
theorem d13_348 : decode (mB m13) 348 = .ok (.goto 4, 3) := by decide +kernel
theorem d13_351 : decode (mB m13) 351 = .ok (.iconst 0, 1) := by decide +kernel
theorem d13_352 : decode (mB m13) 352 = .ok (.if_icmp .ne 24, 3) := by decide +kernel
theorem d13_355 : decode (mB m13) 355 = .ok (.aload 4, 2) := by decide +kernel
theorem d13_357 : decode (mB m13) 357 = .ok (.iconst 0, 1) := by decide +kernel
theorem d13_358 : decode (mB m13) 358 = .ok (.iconst 1, 1) := by decide +kernel
theorem d13_359 : decode (mB m13) 359 = .ok (.invokevirtual 36, 3) := by decide +kernel
theorem d13_362 : decode (mB m13) 362 = .ok (.iload 10, 2) := by decide +kernel
theorem d13_364 : decode (mB m13) 364 = .ok (.ifCond .eq 8, 3) := by decide +kernel
theorem d13_367 : decode (mB m13) 367 = .ok (.iload 5, 2) := by decide +kernel
theorem d13_369 : decode (mB m13) 369 = .ok (.goto 4, 3) := by decide +kernel
theorem d13_372 : decode (mB m13) 372 = .ok (.iconst 0, 1) := by decide +kernel
theorem d13_373 : decode (mB m13) 373 = .ok (.if_icmp .eq 5, 3) := by decide +kernel
theorem d13_376 : decode (mB m13) 376 = .ok (.iconst 0, 1) := by decide +kernel
theorem d13_377 : decode (mB m13) 377 = .ok (.ireturn, 1) := by decide +kernel
theorem d13_378 : decode (mB m13) 378 = .ok (.aload 4, 2) := by decide +kernel
theorem d13_380 : decode (mB m13) 380 = .ok (.iconst 0, 1) := by decide +kernel
theorem d13_381 : decode (mB m13) 381 = .ok (.iconst 2, 1) := by decide +kernel
theorem d13_382 : decode (mB m13) 382 = .ok (.invokevirtual 36, 3) := by decide +kernel
theorem d13_385 : decode (mB m13) 385 = .ok (.iload 10, 2) := by decide +kernel
theorem d13_387 : decode (mB m13) 387 = .ok (.ifCond .eq 8, 3) := by decide +kernel
theorem d13_390 : decode (mB m13) 390 = .ok (.iload 6, 2) := by decide +kernel
theorem d13_392 : decode (mB m13) 392 = .ok (.goto 4, 3) := by decide +kernel
theorem d13_395 : decode (mB m13) 395 = .ok (.iconst 0, 1) := by decide +kernel
theorem d13_396 : decode (mB m13) 396 = .ok (.if_icmp .ne 24, 3) := by decide +kernel
theorem d13_399 : decode (mB m13) 399 = .ok (.aload 4, 2) := by decide +kernel
theorem d13_401 : decode (mB m13) 401 = .ok (.iconst 0, 1) := by decide +kernel
theorem d13_402 : decode (mB m13) 402 = .ok (.iconst 3, 1) := by decide +kernel
theorem d13_403 : decode (mB m13) 403 = .ok (.invokevirtual 36, 3) := by decide +kernel
theorem d13_406 : decode (mB m13) 406 = .ok (.iload 10, 2) := by decide +kernel
theorem d13_408 : decode (mB m13) 408 = .ok (.ifCond .eq 8, 3) := by decide +kernel
theorem d13_411 : decode (mB m13) 411 = .ok (.iload 7, 2) := by decide +kernel
theorem d13_413 : decode (mB m13) 413 = .ok (.goto 4, 3) := by decide +kernel
theorem d13_416 : decode (mB m13) 416 = .ok (.iconst 0, 1) := by decide +kernel
theorem d13_417 : decode (mB m13) 417 = .ok (.if_icmp .eq 5, 3) := by decide +kernel
theorem d13_420 : decode (mB m13) 420 = .ok (.iconst 0, 1) := by decide +kernel
theorem d13_421 : decode (mB m13) 421 = .ok (.ireturn, 1) := by decide +kernel
theorem d13_422 : decode (mB m13) 422 = .ok (.iconst 1, 1) := by decide +kernel
theorem d13_423 : decode (mB m13) 423 = .ok (.ireturn, 1) := by decide +kernel
theorem cb_m6 : (-6 : Int32) = (Int8.ofInt (-6)).toInt32 := by decide
theorem cb_m3 : (-3 : Int32) = (Int8.ofInt (-3)).toInt32 := by decide
theorem cb_m2 : (-2 : Int32) = (Int8.ofInt (-2)).toInt32 := by decide
theorem cb_7 : (7 : Int32) = (Int8.ofInt (7)).toInt32 := by decide
theorem cb_8 : (8 : Int32) = (Int8.ofInt (8)).toInt32 := by decide
theorem cb_9 : (9 : Int32) = (Int8.ofInt (9)).toInt32 := by decide
theorem cb_10 : (10 : Int32) = (Int8.ofInt (10)).toInt32 := by decide
theorem cb_12 : (12 : Int32) = (Int8.ofInt (12)).toInt32 := by decide
theorem cb_15 : (15 : Int32) = (Int8.ofInt (15)).toInt32 := by decide
theorem cb_16 : (16 : Int32) = (Int8.ofInt (16)).toInt32 := by decide
theorem cb_32 : (32 : Int32) = (Int8.ofInt (32)).toInt32 := by decide
theorem cb_33 : (33 : Int32) = (Int8.ofInt (33)).toInt32 := by decide
theorem cb_64 : (64 : Int32) = (Int8.ofInt (64)).toInt32 := by decide
theorem ci_m1 : (-1 : Int32) = Int32.ofInt (-1) := by decide
theorem ci_0 : (0 : Int32) = Int32.ofInt (0) := by decide
theorem ci_1 : (1 : Int32) = Int32.ofInt (1) := by decide
theorem ci_2 : (2 : Int32) = Int32.ofInt (2) := by decide
theorem ci_3 : (3 : Int32) = Int32.ofInt (3) := by decide
theorem ci_4 : (4 : Int32) = Int32.ofInt (4) := by decide
theorem ci_5 : (5 : Int32) = Int32.ofInt (5) := by decide
theorem cs_255 : (255 : Int32) = (Int16.ofInt (255)).toInt32 := by decide
theorem cs_300 : (300 : Int32) = (Int16.ofInt (300)).toInt32 := by decide
theorem cs_4096 : (4096 : Int32) = (Int16.ofInt (4096)).toInt32 := by decide
theorem j_1_5 : 0 ≤ ((1 : Nat) : Int) + (5) ∧ (((1 : Nat) : Int) + (5)).toNat = 6 := by decide
theorem j_1_13 : 0 ≤ ((1 : Nat) : Int) + (13) ∧ (((1 : Nat) : Int) + (13)).toNat = 14 := by decide
theorem j_1_17 : 0 ≤ ((1 : Nat) : Int) + (17) ∧ (((1 : Nat) : Int) + (17)).toNat = 18 := by decide
theorem j_2_5 : 0 ≤ ((2 : Nat) : Int) + (5) ∧ (((2 : Nat) : Int) + (5)).toNat = 7 := by decide
theorem j_2_19 : 0 ≤ ((2 : Nat) : Int) + (19) ∧ (((2 : Nat) : Int) + (19)).toNat = 21 := by decide
theorem j_3_9 : 0 ≤ ((3 : Nat) : Int) + (9) ∧ (((3 : Nat) : Int) + (9)).toNat = 12 := by decide
theorem j_6_5 : 0 ≤ ((6 : Nat) : Int) + (5) ∧ (((6 : Nat) : Int) + (5)).toNat = 11 := by decide
theorem j_6_13 : 0 ≤ ((6 : Nat) : Int) + (13) ∧ (((6 : Nat) : Int) + (13)).toNat = 19 := by decide
theorem j_7_7 : 0 ≤ ((7 : Nat) : Int) + (7) ∧ (((7 : Nat) : Int) + (7)).toNat = 14 := by decide
theorem j_9_5 : 0 ≤ ((9 : Nat) : Int) + (5) ∧ (((9 : Nat) : Int) + (5)).toNat = 14 := by decide
theorem j_9_9 : 0 ≤ ((9 : Nat) : Int) + (9) ∧ (((9 : Nat) : Int) + (9)).toNat = 18 := by decide
theorem j_9_13 : 0 ≤ ((9 : Nat) : Int) + (13) ∧ (((9 : Nat) : Int) + (13)).toNat = 22 := by decide
theorem j_11_4 : 0 ≤ ((11 : Nat) : Int) + (4) ∧ (((11 : Nat) : Int) + (4)).toNat = 15 := by decide
theorem j_12_7 : 0 ≤ ((12 : Nat) : Int) + (7) ∧ (((12 : Nat) : Int) + (7)).toNat = 19 := by decide
theorem j_13_9 : 0 ≤ ((13 : Nat) : Int) + (9) ∧ (((13 : Nat) : Int) + (9)).toNat = 22 := by decide
theorem j_14_8 : 0 ≤ ((14 : Nat) : Int) + (8) ∧ (((14 : Nat) : Int) + (8)).toNat = 22 := by decide
theorem j_15_5 : 0 ≤ ((15 : Nat) : Int) + (5) ∧ (((15 : Nat) : Int) + (5)).toNat = 20 := by decide
theorem j_16_4 : 0 ≤ ((16 : Nat) : Int) + (4) ∧ (((16 : Nat) : Int) + (4)).toNat = 20 := by decide
theorem j_16_5 : 0 ≤ ((16 : Nat) : Int) + (5) ∧ (((16 : Nat) : Int) + (5)).toNat = 21 := by decide
theorem j_16_11 : 0 ≤ ((16 : Nat) : Int) + (11) ∧ (((16 : Nat) : Int) + (11)).toNat = 27 := by decide
theorem j_17_27 : 0 ≤ ((17 : Nat) : Int) + (27) ∧ (((17 : Nat) : Int) + (27)).toNat = 44 := by decide
theorem j_19_5 : 0 ≤ ((19 : Nat) : Int) + (5) ∧ (((19 : Nat) : Int) + (5)).toNat = 24 := by decide
theorem j_19_6 : 0 ≤ ((19 : Nat) : Int) + (6) ∧ (((19 : Nat) : Int) + (6)).toNat = 25 := by decide
theorem j_21_10 : 0 ≤ ((21 : Nat) : Int) + (10) ∧ (((21 : Nat) : Int) + (10)).toNat = 31 := by decide
theorem j_23_19 : 0 ≤ ((23 : Nat) : Int) + (19) ∧ (((23 : Nat) : Int) + (19)).toNat = 42 := by decide
theorem j_23_21 : 0 ≤ ((23 : Nat) : Int) + (21) ∧ (((23 : Nat) : Int) + (21)).toNat = 44 := by decide
theorem j_24_5 : 0 ≤ ((24 : Nat) : Int) + (5) ∧ (((24 : Nat) : Int) + (5)).toNat = 29 := by decide
theorem j_26_5 : 0 ≤ ((26 : Nat) : Int) + (5) ∧ (((26 : Nat) : Int) + (5)).toNat = 31 := by decide
theorem j_27_13 : 0 ≤ ((27 : Nat) : Int) + (13) ∧ (((27 : Nat) : Int) + (13)).toNat = 40 := by decide
theorem j_33_7 : 0 ≤ ((33 : Nat) : Int) + (7) ∧ (((33 : Nat) : Int) + (7)).toNat = 40 := by decide
theorem j_33_10 : 0 ≤ ((33 : Nat) : Int) + (10) ∧ (((33 : Nat) : Int) + (10)).toNat = 43 := by decide
theorem j_37_4 : 0 ≤ ((37 : Nat) : Int) + (4) ∧ (((37 : Nat) : Int) + (4)).toNat = 41 := by decide
theorem j_40_18 : 0 ≤ ((40 : Nat) : Int) + (18) ∧ (((40 : Nat) : Int) + (18)).toNat = 58 := by decide
theorem j_45_10 : 0 ≤ ((45 : Nat) : Int) + (10) ∧ (((45 : Nat) : Int) + (10)).toNat = 55 := by decide
theorem j_48_6 : 0 ≤ ((48 : Nat) : Int) + (6) ∧ (((48 : Nat) : Int) + (6)).toNat = 54 := by decide
theorem j_53_24 : 0 ≤ ((53 : Nat) : Int) + (24) ∧ (((53 : Nat) : Int) + (24)).toNat = 77 := by decide
theorem j_55_193 : 0 ≤ ((55 : Nat) : Int) + (193) ∧ (((55 : Nat) : Int) + (193)).toNat = 248 := by decide
theorem j_57_10 : 0 ≤ ((57 : Nat) : Int) + (10) ∧ (((57 : Nat) : Int) + (10)).toNat = 67 := by decide
theorem j_60_33 : 0 ≤ ((60 : Nat) : Int) + (33) ∧ (((60 : Nat) : Int) + (33)).toNat = 93 := by decide
theorem j_63_14 : 0 ≤ ((63 : Nat) : Int) + (14) ∧ (((63 : Nat) : Int) + (14)).toNat = 77 := by decide
theorem j_67_14 : 0 ≤ ((67 : Nat) : Int) + (14) ∧ (((67 : Nat) : Int) + (14)).toNat = 81 := by decide
theorem j_74_6 : 0 ≤ ((74 : Nat) : Int) + (6) ∧ (((74 : Nat) : Int) + (6)).toNat = 80 := by decide
theorem j_74_7 : 0 ≤ ((74 : Nat) : Int) + (7) ∧ (((74 : Nat) : Int) + (7)).toNat = 81 := by decide
theorem j_78_4 : 0 ≤ ((78 : Nat) : Int) + (4) ∧ (((78 : Nat) : Int) + (4)).toNat = 82 := by decide
theorem j_90_158 : 0 ≤ ((90 : Nat) : Int) + (158) ∧ (((90 : Nat) : Int) + (158)).toNat = 248 := by decide
theorem j_95_36 : 0 ≤ ((95 : Nat) : Int) + (36) ∧ (((95 : Nat) : Int) + (36)).toNat = 131 := by decide
theorem j_102_14 : 0 ≤ ((102 : Nat) : Int) + (14) ∧ (((102 : Nat) : Int) + (14)).toNat = 116 := by decide
theorem j_109_7 : 0 ≤ ((109 : Nat) : Int) + (7) ∧ (((109 : Nat) : Int) + (7)).toNat = 116 := by decide
theorem j_113_4 : 0 ≤ ((113 : Nat) : Int) + (4) ∧ (((113 : Nat) : Int) + (4)).toNat = 117 := by decide
theorem j_128_120 : 0 ≤ ((128 : Nat) : Int) + (120) ∧ (((128 : Nat) : Int) + (120)).toNat = 248 := by decide
theorem j_133_43 : 0 ≤ ((133 : Nat) : Int) + (43) ∧ (((133 : Nat) : Int) + (43)).toNat = 176 := by decide
theorem j_140_21 : 0 ≤ ((140 : Nat) : Int) + (21) ∧ (((140 : Nat) : Int) + (21)).toNat = 161 := by decide
theorem j_147_14 : 0 ≤ ((147 : Nat) : Int) + (14) ∧ (((147 : Nat) : Int) + (14)).toNat = 161 := by decide
theorem j_154_7 : 0 ≤ ((154 : Nat) : Int) + (7) ∧ (((154 : Nat) : Int) + (7)).toNat = 161 := by decide
theorem j_158_4 : 0 ≤ ((158 : Nat) : Int) + (4) ∧ (((158 : Nat) : Int) + (4)).toNat = 162 := by decide
theorem j_173_75 : 0 ≤ ((173 : Nat) : Int) + (75) ∧ (((173 : Nat) : Int) + (75)).toNat = 248 := by decide
theorem j_178_43 : 0 ≤ ((178 : Nat) : Int) + (43) ∧ (((178 : Nat) : Int) + (43)).toNat = 221 := by decide
theorem j_185_21 : 0 ≤ ((185 : Nat) : Int) + (21) ∧ (((185 : Nat) : Int) + (21)).toNat = 206 := by decide
theorem j_192_14 : 0 ≤ ((192 : Nat) : Int) + (14) ∧ (((192 : Nat) : Int) + (14)).toNat = 206 := by decide
theorem j_199_7 : 0 ≤ ((199 : Nat) : Int) + (7) ∧ (((199 : Nat) : Int) + (7)).toNat = 206 := by decide
theorem j_203_4 : 0 ≤ ((203 : Nat) : Int) + (4) ∧ (((203 : Nat) : Int) + (4)).toNat = 207 := by decide
theorem j_218_30 : 0 ≤ ((218 : Nat) : Int) + (30) ∧ (((218 : Nat) : Int) + (30)).toNat = 248 := by decide
theorem j_224_6 : 0 ≤ ((224 : Nat) : Int) + (6) ∧ (((224 : Nat) : Int) + (6)).toNat = 230 := by decide
theorem j_224_9 : 0 ≤ ((224 : Nat) : Int) + (9) ∧ (((224 : Nat) : Int) + (9)).toNat = 233 := by decide
theorem j_230_9 : 0 ≤ ((230 : Nat) : Int) + (9) ∧ (((230 : Nat) : Int) + (9)).toNat = 239 := by decide
theorem j_233_6 : 0 ≤ ((233 : Nat) : Int) + (6) ∧ (((233 : Nat) : Int) + (6)).toNat = 239 := by decide
theorem j_236_12 : 0 ≤ ((236 : Nat) : Int) + (12) ∧ (((236 : Nat) : Int) + (12)).toNat = 248 := by decide
theorem j_250_9 : 0 ≤ ((250 : Nat) : Int) + (9) ∧ (((250 : Nat) : Int) + (9)).toNat = 259 := by decide
theorem j_256_8 : 0 ≤ ((256 : Nat) : Int) + (8) ∧ (((256 : Nat) : Int) + (8)).toNat = 264 := by decide
theorem j_261_14 : 0 ≤ ((261 : Nat) : Int) + (14) ∧ (((261 : Nat) : Int) + (14)).toNat = 275 := by decide
theorem j_266_7 : 0 ≤ ((266 : Nat) : Int) + (7) ∧ (((266 : Nat) : Int) + (7)).toNat = 273 := by decide
theorem j_270_5 : 0 ≤ ((270 : Nat) : Int) + (5) ∧ (((270 : Nat) : Int) + (5)).toNat = 275 := by decide
theorem j_279_7 : 0 ≤ ((279 : Nat) : Int) + (7) ∧ (((279 : Nat) : Int) + (7)).toNat = 286 := by decide
theorem j_283_4 : 0 ≤ ((283 : Nat) : Int) + (4) ∧ (((283 : Nat) : Int) + (4)).toNat = 287 := by decide
theorem j_300_5 : 0 ≤ ((300 : Nat) : Int) + (5) ∧ (((300 : Nat) : Int) + (5)).toNat = 305 := by decide
theorem j_312_7 : 0 ≤ ((312 : Nat) : Int) + (7) ∧ (((312 : Nat) : Int) + (7)).toNat = 319 := by decide
theorem j_316_4 : 0 ≤ ((316 : Nat) : Int) + (4) ∧ (((316 : Nat) : Int) + (4)).toNat = 320 := by decide
theorem j_320_13 : 0 ≤ ((320 : Nat) : Int) + (13) ∧ (((320 : Nat) : Int) + (13)).toNat = 333 := by decide
theorem j_330_5 : 0 ≤ ((330 : Nat) : Int) + (5) ∧ (((330 : Nat) : Int) + (5)).toNat = 335 := by decide
theorem j_344_7 : 0 ≤ ((344 : Nat) : Int) + (7) ∧ (((344 : Nat) : Int) + (7)).toNat = 351 := by decide
theorem j_348_4 : 0 ≤ ((348 : Nat) : Int) + (4) ∧ (((348 : Nat) : Int) + (4)).toNat = 352 := by decide
theorem j_352_24 : 0 ≤ ((352 : Nat) : Int) + (24) ∧ (((352 : Nat) : Int) + (24)).toNat = 376 := by decide
theorem j_364_8 : 0 ≤ ((364 : Nat) : Int) + (8) ∧ (((364 : Nat) : Int) + (8)).toNat = 372 := by decide
theorem j_369_4 : 0 ≤ ((369 : Nat) : Int) + (4) ∧ (((369 : Nat) : Int) + (4)).toNat = 373 := by decide
theorem j_373_5 : 0 ≤ ((373 : Nat) : Int) + (5) ∧ (((373 : Nat) : Int) + (5)).toNat = 378 := by decide
theorem j_387_8 : 0 ≤ ((387 : Nat) : Int) + (8) ∧ (((387 : Nat) : Int) + (8)).toNat = 395 := by decide
theorem j_392_4 : 0 ≤ ((392 : Nat) : Int) + (4) ∧ (((392 : Nat) : Int) + (4)).toNat = 396 := by decide
theorem j_396_24 : 0 ≤ ((396 : Nat) : Int) + (24) ∧ (((396 : Nat) : Int) + (24)).toNat = 420 := by decide
theorem j_408_8 : 0 ≤ ((408 : Nat) : Int) + (8) ∧ (((408 : Nat) : Int) + (8)).toNat = 416 := by decide
theorem j_413_4 : 0 ≤ ((413 : Nat) : Int) + (4) ∧ (((413 : Nat) : Int) + (4)).toNat = 417 := by decide
theorem j_417_5 : 0 ≤ ((417 : Nat) : Int) + (5) ∧ (((417 : Nat) : Int) + (5)).toNat = 422 := by decide
theorem lk_0_118 : LinkP PP "NullCheckOpt" 118 m5 := ⟨List.mem_of_getElem? (i := 114) rfl, List.mem_of_getElem? (i := 115) rfl, List.mem_of_getElem? (i := 116) rfl, List.mem_of_getElem? (i := 117) rfl, rfl, rfl⟩
theorem lk_0_122 : LinkP PP "NullCheckOpt" 122 m6 := ⟨List.mem_of_getElem? (i := 118) rfl, List.mem_of_getElem? (i := 119) rfl, List.mem_of_getElem? (i := 120) rfl, List.mem_of_getElem? (i := 121) rfl, rfl, rfl⟩
theorem lk_0_125 : LinkP PP "NullCheckOpt" 125 m7 := ⟨List.mem_of_getElem? (i := 122) rfl, List.mem_of_getElem? (i := 123) rfl, List.mem_of_getElem? (i := 124) rfl, List.mem_of_getElem? (i := 125) rfl, rfl, rfl⟩
theorem lk_0_128 : LinkP PP "NullCheckOpt" 128 m8 := ⟨List.mem_of_getElem? (i := 126) rfl, List.mem_of_getElem? (i := 127) rfl, List.mem_of_getElem? (i := 128) rfl, List.mem_of_getElem? (i := 129) rfl, rfl, rfl⟩
theorem lk_0_132 : LinkP PP "NullCheckOpt" 132 m9 := ⟨List.mem_of_getElem? (i := 130) rfl, List.mem_of_getElem? (i := 131) rfl, List.mem_of_getElem? (i := 132) rfl, List.mem_of_getElem? (i := 133) rfl, rfl, rfl⟩
theorem lk_1_9 : LinkI PP "NullCheckOptL2" 9 m0 := ⟨List.mem_of_getElem? (i := 3) rfl, List.mem_of_getElem? (i := 4) rfl, List.mem_of_getElem? (i := 5) rfl, rfl, rfl, rfl, rfl⟩
theorem lk_1_12 : LinkV PP "NullCheckOptL2" 12 m1 := ⟨List.mem_of_getElem? (i := 81) rfl, List.mem_of_getElem? (i := 82) rfl, List.mem_of_getElem? (i := 84) rfl, List.mem_of_getElem? (i := 83) rfl, List.mem_of_getElem? (i := 85) rfl, rfl, rfl⟩
theorem lk_1_16 : LinkV PP "NullCheckOptL2" 16 m2 := ⟨List.mem_of_getElem? (i := 90) rfl, List.mem_of_getElem? (i := 91) rfl, List.mem_of_getElem? (i := 93) rfl, List.mem_of_getElem? (i := 92) rfl, List.mem_of_getElem? (i := 94) rfl, rfl, rfl⟩
theorem lk_1_20 : LinkS PP "NullCheckOptL2" 20 m3 := ⟨List.mem_of_getElem? (i := 95) rfl, List.mem_of_getElem? (i := 96) rfl, List.mem_of_getElem? (i := 97) rfl, List.mem_of_getElem? (i := 98) rfl, by decide⟩
theorem lk_1_26 : LinkS PP "NullCheckOptL2" 26 m4 := ⟨List.mem_of_getElem? (i := 134) rfl, List.mem_of_getElem? (i := 135) rfl, List.mem_of_getElem? (i := 97) rfl, List.mem_of_getElem? (i := 136) rfl, by decide⟩
theorem lk_1_29 : LinkV PP "NullCheckOptL2" 29 m10 := ⟨List.mem_of_getElem? (i := 99) rfl, List.mem_of_getElem? (i := 100) rfl, List.mem_of_getElem? (i := 102) rfl, List.mem_of_getElem? (i := 101) rfl, List.mem_of_getElem? (i := 103) rfl, rfl, rfl⟩
theorem lk_1_33 : LinkV PP "NullCheckOptL2" 33 m11 := ⟨List.mem_of_getElem? (i := 104) rfl, List.mem_of_getElem? (i := 105) rfl, List.mem_of_getElem? (i := 107) rfl, List.mem_of_getElem? (i := 106) rfl, List.mem_of_getElem? (i := 108) rfl, rfl, rfl⟩
theorem lk_1_36 : LinkV PP "NullCheckOptL2" 36 m12 := ⟨List.mem_of_getElem? (i := 109) rfl, List.mem_of_getElem? (i := 110) rfl, List.mem_of_getElem? (i := 112) rfl, List.mem_of_getElem? (i := 111) rfl, List.mem_of_getElem? (i := 113) rfl, rfl, rfl⟩
theorem facts1 {Z : State} {a0 : Array Value} (hw : ∀ d ∈ tables_1, d.before a0 Z = true) : Facts Z a0 ci1 := by
  refine ⟨hw _ (List.mem_of_getElem? (i := 1) rfl), hw _ (List.mem_of_getElem? (i := 2) rfl), ?_, ?_, by decide, ?_, by decide⟩
  · intro f x hx
    match f, hx with
    | 0, hx => cases hx; exact ⟨Or.inr (hw _ (List.mem_of_getElem? (i := 10) rfl)), by decide⟩
    | 1, hx => cases hx; exact ⟨Or.inr (hw _ (List.mem_of_getElem? (i := 12) rfl)), by decide⟩
    | 2, hx => cases hx; exact ⟨Or.inr (hw _ (List.mem_of_getElem? (i := 14) rfl)), by decide⟩
    | 3, hx => cases hx; exact ⟨Or.inr (hw _ (List.mem_of_getElem? (i := 16) rfl)), by decide⟩
    | 4, hx => cases hx; exact ⟨Or.inr (hw _ (List.mem_of_getElem? (i := 18) rfl)), by decide⟩
    | 5, hx => cases hx; exact ⟨Or.inr (hw _ (List.mem_of_getElem? (i := 20) rfl)), by decide⟩
    | 6, hx => cases hx; exact ⟨Or.inr (hw _ (List.mem_of_getElem? (i := 22) rfl)), by decide⟩
    | 7, hx => cases hx; exact ⟨Or.inl (hw _ (List.mem_of_getElem? (i := 70) rfl)), by decide⟩
    | 8, hx => cases hx; exact ⟨Or.inl (hw _ (List.mem_of_getElem? (i := 72) rfl)), by decide⟩
    | 9, hx => cases hx; exact ⟨Or.inl (hw _ (List.mem_of_getElem? (i := 74) rfl)), by decide⟩
    | 10, hx => cases hx; exact ⟨Or.inl (hw _ (List.mem_of_getElem? (i := 76) rfl)), by decide⟩
    | 11, hx => cases hx; exact ⟨Or.inl (hw _ (List.mem_of_getElem? (i := 78) rfl)), by decide⟩
    | 12, hx => cases hx; exact ⟨Or.inl (hw _ (List.mem_of_getElem? (i := 80) rfl)), by decide⟩
    | 13, hx => cases hx; exact ⟨Or.inl (hw _ (List.mem_of_getElem? (i := 87) rfl)), by decide⟩
    | 14, hx => cases hx; exact ⟨Or.inl (hw _ (List.mem_of_getElem? (i := 89) rfl)), by decide⟩
    | n + 15, hx => simp [cS, ci1] at hx
  · intro q x hx
    match q, hx with
    | 0, hx => cases hx; exact ⟨Or.inr (hw _ (List.mem_of_getElem? (i := 25) rfl)), by decide⟩
    | 1, hx => cases hx; exact ⟨Or.inr (hw _ (List.mem_of_getElem? (i := 27) rfl)), by decide⟩
    | 2, hx => cases hx; exact ⟨Or.inr (hw _ (List.mem_of_getElem? (i := 29) rfl)), by decide⟩
    | 3, hx => cases hx; exact ⟨Or.inr (hw _ (List.mem_of_getElem? (i := 31) rfl)), by decide⟩
    | 4, hx => cases hx; exact ⟨Or.inr (hw _ (List.mem_of_getElem? (i := 33) rfl)), by decide⟩
    | 5, hx => cases hx; exact ⟨Or.inr (hw _ (List.mem_of_getElem? (i := 35) rfl)), by decide⟩
    | 6, hx => cases hx; exact ⟨Or.inr (hw _ (List.mem_of_getElem? (i := 37) rfl)), by decide⟩
    | 7, hx => cases hx; exact ⟨Or.inr (hw _ (List.mem_of_getElem? (i := 39) rfl)), by decide⟩
    | 8, hx => cases hx; exact ⟨Or.inr (hw _ (List.mem_of_getElem? (i := 42) rfl)), by decide⟩
    | 9, hx => cases hx; exact ⟨Or.inr (hw _ (List.mem_of_getElem? (i := 44) rfl)), by decide⟩
    | 10, hx => cases hx; exact ⟨Or.inr (hw _ (List.mem_of_getElem? (i := 46) rfl)), by decide⟩
    | 11, hx => cases hx; exact ⟨Or.inr (hw _ (List.mem_of_getElem? (i := 48) rfl)), by decide⟩
    | 12, hx => cases hx; exact ⟨Or.inr (hw _ (List.mem_of_getElem? (i := 50) rfl)), by decide⟩
    | 13, hx => cases hx; exact ⟨Or.inr (hw _ (List.mem_of_getElem? (i := 52) rfl)), by decide⟩
    | 14, hx => cases hx; exact ⟨Or.inr (hw _ (List.mem_of_getElem? (i := 54) rfl)), by decide⟩
    | 15, hx => cases hx; exact ⟨Or.inr (hw _ (List.mem_of_getElem? (i := 56) rfl)), by decide⟩
    | 16, hx => cases hx; exact ⟨Or.inr (hw _ (List.mem_of_getElem? (i := 58) rfl)), by decide⟩
    | 17, hx => cases hx; exact ⟨Or.inr (hw _ (List.mem_of_getElem? (i := 60) rfl)), by decide⟩
    | 18, hx => cases hx; exact ⟨Or.inr (hw _ (List.mem_of_getElem? (i := 62) rfl)), by decide⟩
    | 19, hx => cases hx; exact ⟨Or.inr (hw _ (List.mem_of_getElem? (i := 64) rfl)), by decide⟩
    | 20, hx => cases hx; exact ⟨Or.inr (hw _ (List.mem_of_getElem? (i := 66) rfl)), by decide⟩
    | 21, hx => cases hx; exact ⟨Or.inr (hw _ (List.mem_of_getElem? (i := 68) rfl)), by decide⟩
    | n + 22, hx => simp [cA, ci1] at hx
  · intro f x hx
    match f, hx with
    | 0, hx => cases hx; rfl
    | 1, hx => cases hx; rfl
    | 2, hx => cases hx; rfl
    | 3, hx => cases hx; rfl
    | 4, hx => cases hx; rfl
    | 5, hx => cases hx; rfl
    | 6, hx => cases hx; rfl
    | 7, hx => cases hx; rfl
    | 8, hx => cases hx; rfl
    | 9, hx => cases hx; rfl
    | 10, hx => cases hx; rfl
    | 11, hx => cases hx; rfl
    | 12, hx => cases hx; rfl
    | 13, hx => cases hx; rfl
    | 14, hx => cases hx; rfl
    | n + 15, hx => simp [cS, ci1] at hx
def k_init_239  (v2 : Int32) (s : S) : Option S :=
  some (sI (sI (sI (sI (sI (sI s 7 v2) 8 (0 : Int32)) 9 (0 : Int32)) 10 (0 : Int32)) 11 (0 : Int32)) 12 (0 : Int32))
def k_init_230  (v2 : Int32) (s : S) : Option S :=
  k_init_239 (if (64 : Int32) < v2 then (64 : Int32) else v2) s
def k_init  (v1 : Int32)  : Option S :=
  k_init_230 (if v1 < (16 : Int32) then (16 : Int32) else v1) (sA (sA (sA (sA (sA (sA (sA (sA (sA (sA (sA (sA (sA (sA (sA (sA (sA (sA (sA (sA (sA (sA (sI (sI (sI (sI (sI (sI (sI s0 0 (0 : Int32)) 1 (1 : Int32)) 2 (2 : Int32)) 3 (3 : Int32)) 4 (4096 : Int32)) 5 (300 : Int32)) 6 (255 : Int32)) 0 (rep 32 0)) 1 (rep 32 0)) 2 (rep 32 0)) 3 (rep 32 0)) 4 (rep 32 0)) 5 (rep 32 0)) 6 (rep 32 0)) 7 (rep 4 0)) 8 (rep 4 0)) 9 (rep 64 0)) 10 (rep 64 0)) 11 (rep 32 0)) 12 (rep 8 0)) 13 (rep 32 0)) 14 (rep 32 0)) 15 (rep 32 0)) 16 (rep 33 0)) 17 (rep 33 0)) 18 (rep 33 0)) 19 (rep 33 0)) 20 (rep 33 0)) 21 (rep 33 0))
def k_compile_44   (s : S) : Option (Int32 × S) :=
  if 0 < (gI s 13) then
    some ((-6 : Int32), s)
  else
    some ((0 : Int32), sI s 9 (1 : Int32))
def k_compile   (s : S) : Option (Int32 × S) :=
  if (0 : Int32) < (gI s 8) then
    if (0 : Int32) < (32 : Int32) then
      none
    else
      k_compile_44 (sI (sI s 13 (0 : Int32)) 14 (0 : Int32))
  else
    k_compile_44 (sI (sI s 13 (0 : Int32)) 14 (0 : Int32))
def k_isCompiled   (s : S) : Int32 :=
  nar .boolean (gI s 9)
def k_roleOfA  (v1 : Int32)  : Int32 :=
  if v1 = (9 : Int32) then
    (0 : Int32)
  else
    if v1 = (10 : Int32) then
      (0 : Int32)
    else
      (1 : Int32)
def k_roleOfB  (v1 : Int32)  : Int32 :=
  if v1 = (1 : Int32) then
    (3 : Int32)
  else
    if v1 = (2 : Int32) then
      (1 : Int32)
    else
      if v1 = (3 : Int32) then
        (1 : Int32)
      else
        if v1 = (4 : Int32) then
          (1 : Int32)
        else
          if v1 = (5 : Int32) then
            (2 : Int32)
          else
            (0 : Int32)
def k_roleOfC  (v1 : Int32)  : Int32 :=
  if v1 = (3 : Int32) then
    (3 : Int32)
  else
    if v1 = (4 : Int32) then
      (2 : Int32)
    else
      if v1 = (5 : Int32) then
        (1 : Int32)
      else
        (0 : Int32)
def k_fits  (v1 : Int32) (v2 : Int32)  : Int32 :=
  if v1 = (1 : Int32) then
    if v2 < 0 then
      (0 : Int32)
    else
      if (7 : Int32) < v2 then
        (0 : Int32)
      else
        (1 : Int32)
  else
    if v1 = (2 : Int32) then
      if v2 < 0 then
        (0 : Int32)
      else
        if (15 : Int32) < v2 then
          (0 : Int32)
        else
          (1 : Int32)
    else
      (1 : Int32)
def k_kept  (v1 : Int32) (v2 : Int32)  : Int32 :=
  if v1 = 0 then
    (0 : Int32)
  else
    v2
def k_add  (v1 : Int32) (v2 : Int32) (v3 : Int32) (v4 : Int32) (s : S) : Option (Int32 × S) :=
  if (gI s 8) < (32 : Int32) then
    if v1 < (1 : Int32) then
      some ((-2 : Int32), s)
    else
      if (12 : Int32) < v1 then
        some ((-2 : Int32), s)
      else
        if (k_fits (k_roleOfA v1) v2) = 0 then
          some ((-3 : Int32), s)
        else
          if (k_fits (k_roleOfB v1) v3) = 0 then
            some ((-3 : Int32), s)
          else
            if (k_fits (k_roleOfC v1) v4) = 0 then
              some ((-3 : Int32), s)
            else
              (Jvm.AM.st (gA s 0) (gI s 8) v1).bind fun a93 =>
              (Jvm.AM.st (gA s 1) (gI s 8) (k_kept (k_roleOfA v1) v2)).bind fun a107 =>
              (Jvm.AM.st (gA s 2) (gI s 8) (k_kept (k_roleOfB v1) v3)).bind fun a121 =>
              (Jvm.AM.st (gA s 3) (gI s 8) (k_kept (k_roleOfC v1) v4)).bind fun a136 =>
              some (gI s 8, sI (sI (sA (sA (sA (sA s 0 a93) 1 a107) 2 a121) 3 a136) 8 ((gI s 8) + (1 : Int32))) 9 (0 : Int32))
  else
    some ((-1 : Int32), s)
def k_length   (s : S) : Int32 :=
  gI s 8
def k_getField  (v1 : Int32) (v2 : Int32) (s : S) : Option Int32 :=
  if v1 < 0 then
    some (0 : Int32)
  else
    if v1 < (gI s 8) then
      if v1 < (32 : Int32) then
        if v2 = 0 then
          (ix (gA s 0) v1).bind fun a29 =>
          some a29
        else
          if v2 = (1 : Int32) then
            (ix (gA s 1) v1).bind fun a41 =>
            some a41
          else
            if v2 = (2 : Int32) then
              (ix (gA s 2) v1).bind fun a53 =>
              some a53
            else
              if v2 = (3 : Int32) then
                (ix (gA s 3) v1).bind fun a65 =>
                some a65
              else
                some (0 : Int32)
      else
        some (0 : Int32)
    else
      some (0 : Int32)
def h_reg  (v0 : Int32)  : Int32 :=
  if v0 < 0 then
    (0 : Int32)
  else
    if (7 : Int32) < v0 then
      (0 : Int32)
    else
      (1 : Int32)
def h_off  (v0 : Int32)  : Int32 :=
  if v0 < 0 then
    (0 : Int32)
  else
    if (15 : Int32) < v0 then
      (0 : Int32)
    else
      (1 : Int32)
def law_417  (p0 : Int32) (p1 : Int32) (t0 : S) : Option (Int32 × S) :=
  if p1 = p0 then
    some ((1 : Int32), t0)
  else
    some ((0 : Int32), t0)
def law_396  (v7 : Int32) (v10 : Int32) (p0 : Int32) (p1 : Int32) (t0 : S) : Option (Int32 × S) :=
  if p1 = p0 then
    (k_getField (0 : Int32) (3 : Int32) t0).bind fun r403 =>
    law_417 (if v10 = 0 then (0 : Int32) else v7) r403 t0
  else
    some ((0 : Int32), t0)
def law_373  (v6 : Int32) (v7 : Int32) (v10 : Int32) (p0 : Int32) (p1 : Int32) (t0 : S) : Option (Int32 × S) :=
  if p1 = p0 then
    (k_getField (0 : Int32) (2 : Int32) t0).bind fun r382 =>
    law_396 v7 v10 (if v10 = 0 then (0 : Int32) else v6) r382 t0
  else
    some ((0 : Int32), t0)
def law_352  (v5 : Int32) (v6 : Int32) (v7 : Int32) (v10 : Int32) (p0 : Int32) (p1 : Int32) (t0 : S) : Option (Int32 × S) :=
  if p1 = p0 then
    (k_getField (0 : Int32) (1 : Int32) t0).bind fun r359 =>
    law_373 v6 v7 v10 (if v10 = 0 then (0 : Int32) else v5) r359 t0
  else
    some ((0 : Int32), t0)
def law_320  (v0 : Int32) (v5 : Int32) (v6 : Int32) (v7 : Int32) (v10 : Int32) (p0 : Int32) (p1 : Int32) (t0 : S) : Option (Int32 × S) :=
  if p1 = p0 then
    if (k_isCompiled t0) = v10 then
      some ((0 : Int32), t0)
    else
      (k_getField (0 : Int32) (0 : Int32) t0).bind fun r339 =>
      law_352 v5 v6 v7 v10 (if v10 = 0 then (0 : Int32) else v0) r339 t0
  else
    some ((0 : Int32), t0)
def law_287  (v0 : Int32) (v1 : Int32) (v2 : Int32) (v3 : Int32) (v5 : Int32) (v6 : Int32) (v7 : Int32) (v9 : Int32) (p0 : Int32) (t0 : S) : Option (Int32 × S) :=
  (k_add v0 v1 v2 v3 t0).bind fun r295 =>
  if r295.1 = v9 then
    law_320 v0 v5 v6 v7 p0 (if p0 = 0 then (0 : Int32) else (1 : Int32)) (k_length r295.2) r295.2
  else
    some ((0 : Int32), r295.2)
def law_275  (v0 : Int32) (v1 : Int32) (v2 : Int32) (v3 : Int32) (v5 : Int32) (v6 : Int32) (v7 : Int32) (p0 : Int32) (t0 : S) : Option (Int32 × S) :=
  law_287 v0 v1 v2 v3 v5 v6 v7 p0 (if p0 = 0 then (1 : Int32) else (0 : Int32)) t0
def law_248  (v0 : Int32) (v1 : Int32) (v2 : Int32) (v3 : Int32) (v5 : Int32) (v6 : Int32) (v7 : Int32) (v8 : Int32) (t0 : S) : Option (Int32 × S) :=
  law_275 v0 v1 v2 v3 v5 v6 v7 (if v0 < (1 : Int32) then (-2 : Int32) else if (12 : Int32) < v0 then (-2 : Int32) else if v8 = 0 then (-3 : Int32) else (0 : Int32)) t0
def law_117  (v0 : Int32) (v1 : Int32) (v2 : Int32) (v3 : Int32) (p0 : Int32) (t0 : S) : Option (Int32 × S) :=
  law_248 v0 v1 v2 v3 v1 v2 v3 p0 t0
def law_82  (v0 : Int32) (v1 : Int32) (v2 : Int32) (v3 : Int32) (v7 : Int32) (p0 : Int32) (t0 : S) : Option (Int32 × S) :=
  law_248 v0 v1 v2 v3 v1 v2 v7 p0 t0
def law  (v0 : Int32) (v1 : Int32) (v2 : Int32) (v3 : Int32)  : Option (Int32 × S) :=
  (k_init (16 : Int32)).bind fun r6 =>
  (k_compile r6).bind fun r13 =>
  if r13.1 = 0 then
    if (k_isCompiled r13.2) = 0 then
      some ((0 : Int32), r13.2)
    else
      if v0 = (1 : Int32) then
        law_248 v0 v1 v2 v3 v1 v2 (0 : Int32) (h_reg v1) r13.2
      else
        if v0 = (2 : Int32) then
          law_82 v0 v1 v2 v3 (0 : Int32) (if (h_reg v1) = 0 then (0 : Int32) else if (h_reg v2) = 0 then (0 : Int32) else (1 : Int32)) r13.2
        else
          if v0 = (3 : Int32) then
            law_117 v0 v1 v2 v3 (if (h_reg v1) = 0 then (0 : Int32) else if (h_reg v2) = 0 then (0 : Int32) else (1 : Int32)) r13.2
          else
            law_248 v0 v1 v2 v3 (if v0 = (4 : Int32) then v1 else if v0 = (5 : Int32) then v1 else if v0 = (9 : Int32) then (0 : Int32) else if v0 = (10 : Int32) then (0 : Int32) else v1) (if v0 = (4 : Int32) then v2 else if v0 = (5 : Int32) then v2 else (0 : Int32)) (if v0 = (4 : Int32) then v3 else if v0 = (5 : Int32) then v3 else (0 : Int32)) (if v0 = (4 : Int32) then if (h_reg v1) = 0 then (0 : Int32) else if (h_reg v2) = 0 then (0 : Int32) else if (h_off v3) = 0 then (0 : Int32) else (1 : Int32) else if v0 = (5 : Int32) then if (h_reg v1) = 0 then (0 : Int32) else if (h_off v2) = 0 then (0 : Int32) else if (h_reg v3) = 0 then (0 : Int32) else (1 : Int32) else if v0 = (9 : Int32) then (1 : Int32) else if v0 = (10 : Int32) then (1 : Int32) else (h_reg v1)) r13.2
  else
    some ((0 : Int32), r13.2)
set_option maxRecDepth 65536 in
set_option maxHeartbeats 4000000 in
theorem k_init_239_ok  : ∀ (v2 : Int32) (s : S) (x1 : Slot) (hx1 : k1 x1) (o : S), k_init_239 v2 s = some o → Go PP m0 239 [.val (.ref 1), x1, .val (.int v2)] [] (none, [(22, s)]) (none, (none, [(22, o)])) := by
  intro v2 s x1 hx1 o hf
  unfold k_init_239 at hf
  refine go_aloadN (pc := 239) d0_239 rfl (go_iloadN (pc := 240) d0_240 rfl (go_putI (pc := 241) fs_99 hm_0 (wr_7 _) hn_0 d0_241 (go_aloadN (pc := 244) d0_244 rfl (go_iconst (pc := 245) d0_245 ci_0 (go_putI (pc := 246) fs_102 hm_0 (wr_8 _) hn_0 d0_246 (go_aloadN (pc := 249) d0_249 rfl (go_iconst (pc := 250) d0_250 ci_0 ?_)))))))
  refine go_putZ (pc := 251) fs_105 hm_0 (wr_9 _) hn_0 (by decide) d0_251 (go_aloadN (pc := 254) d0_254 rfl (go_iconst (pc := 255) d0_255 ci_0 (go_putI (pc := 256) fs_109 hm_0 (wr_10 _) hn_0 d0_256 (go_aloadN (pc := 259) d0_259 rfl (go_iconst (pc := 260) d0_260 ci_0 (go_putI (pc := 261) fs_112 hm_0 (wr_11 _) hn_0 d0_261 (go_aloadN (pc := 264) d0_264 rfl ?_)))))))
  refine go_iconst (pc := 265) d0_265 ci_0 (go_putI (pc := 266) fs_115 hm_0 (wr_12 _) hn_0 d0_266 ?_)
  cases hf
  exact go_ret (pc := 269) rfl d0_269
set_option maxRecDepth 65536 in
set_option maxHeartbeats 4000000 in
theorem k_init_230_ok  : ∀ (v2 : Int32) (s : S) (x1 : Slot) (hx1 : k1 x1) (o : S), k_init_230 v2 s = some o → Go PP m0 230 [.val (.ref 1), x1, .val (.int v2)] [] (none, [(22, s)]) (none, (none, [(22, o)])) := by
  intro v2 s x1 hx1 o hf
  unfold k_init_230 at hf
  refine go_iloadN (pc := 230) d0_230 rfl (go_bipush (pc := 231) d0_231 cb_64 ?_)
  by_cases h1 : (64 : Int32) < v2
  · refine go_icN (pc := 233) d0_233 (XT.ii_le_f h1) ?_
    refine go_bipush (pc := 236) d0_236 cb_64 (go_istoreN (pc := 238) (L' := [.val (.ref 1), x1, .val (.int (64 : Int32))]) d0_238 rfl ?_)
    exact k_init_239_ok (64 : Int32) s x1 hx1 _ (by simpa only [if_pos h1] using hf)
  · refine go_icY (pc := 233) (pc' := 239) d0_233 (XT.ii_le_t h1) j_233_6 ?_
    exact k_init_239_ok v2 s x1 hx1 _ (by simpa only [if_neg h1] using hf)
set_option maxRecDepth 65536 in
set_option maxHeartbeats 4000000 in
theorem k_init_ok  : ∀ (v1 : Int32)   (o : S), k_init v1 = some o → Go PP m0 0 [.val (.ref 1), .val (.int v1), .unset] [] (none, [(0, s0)]) (none, (none, [(22, o)])) := by
  intro v1 o hf
  unfold k_init at hf
  refine go_aloadN (pc := 0) d0_0 rfl ?_
  refine go_objinit (pc := 1) (rest := []) (a := 0) (List.mem_of_getElem? (i := 6) rfl) (List.mem_of_getElem? (i := 7) rfl) (List.mem_of_getElem? (i := 8) rfl) rfl rfl d0_1 ?_
  refine go_aloadN (pc := 4) d0_4 rfl (go_iconst (pc := 5) d0_5 ci_0 (go_putI (pc := 6) fs_7 hm_0 wr_0 hn_0 d0_6 (go_aloadN (pc := 9) d0_9 rfl (go_iconst (pc := 10) d0_10 ci_1 (go_putI (pc := 11) fs_13 hm_0 wr_1 hn_0 d0_11 (go_aloadN (pc := 14) d0_14 rfl (go_iconst (pc := 15) d0_15 ci_2 ?_)))))))
  refine go_putI (pc := 16) fs_16 hm_0 wr_2 hn_0 d0_16 (go_aloadN (pc := 19) d0_19 rfl (go_iconst (pc := 20) d0_20 ci_3 (go_putI (pc := 21) fs_19 hm_0 wr_3 hn_0 d0_21 (go_aloadN (pc := 24) d0_24 rfl (go_sipush (pc := 25) d0_25 cs_4096 (go_putI (pc := 28) fs_22 hm_0 wr_4 hn_0 d0_28 (go_aloadN (pc := 31) d0_31 rfl ?_)))))))
  refine go_sipush (pc := 32) d0_32 cs_300 (go_putI (pc := 35) fs_25 hm_0 wr_5 hn_0 d0_35 (go_aloadN (pc := 38) d0_38 rfl (go_sipush (pc := 39) d0_39 cs_255 (go_putI (pc := 42) fs_28 hm_0 wr_6 hn_0 d0_42 (go_aloadN (pc := 45) d0_45 rfl (go_bipush (pc := 46) d0_46 cb_32 ?_))))))
  refine go_newI (pc := 48) (ty := .int) rfl (by decide) ar_0 (List.mem_of_getElem? (i := 23) rfl) (List.mem_of_getElem? (i := 24) rfl) hm_0 (Or.inr ⟨List.mem_of_getElem? (i := 25) rfl, rfl⟩) rfl hn_0 (by decide) rfl rfl rfl rfl d0_48 d0_50 ?_
  refine go_aloadN (pc := 53) d0_53 rfl (go_bipush (pc := 54) d0_54 cb_32 ?_)
  refine go_newI (pc := 56) (ty := .int) rfl (by decide) ar_1 (List.mem_of_getElem? (i := 23) rfl) (List.mem_of_getElem? (i := 26) rfl) hm_0 (Or.inr ⟨List.mem_of_getElem? (i := 27) rfl, rfl⟩) rfl hn_0 (by decide) rfl rfl rfl rfl d0_56 d0_58 ?_
  refine go_aloadN (pc := 61) d0_61 rfl (go_bipush (pc := 62) d0_62 cb_32 ?_)
  refine go_newI (pc := 64) (ty := .int) rfl (by decide) ar_2 (List.mem_of_getElem? (i := 23) rfl) (List.mem_of_getElem? (i := 28) rfl) hm_0 (Or.inr ⟨List.mem_of_getElem? (i := 29) rfl, rfl⟩) rfl hn_0 (by decide) rfl rfl rfl rfl d0_64 d0_66 ?_
  refine go_aloadN (pc := 69) d0_69 rfl (go_bipush (pc := 70) d0_70 cb_32 ?_)
  refine go_newI (pc := 72) (ty := .int) rfl (by decide) ar_3 (List.mem_of_getElem? (i := 23) rfl) (List.mem_of_getElem? (i := 30) rfl) hm_0 (Or.inr ⟨List.mem_of_getElem? (i := 31) rfl, rfl⟩) rfl hn_0 (by decide) rfl rfl rfl rfl d0_72 d0_74 ?_
  refine go_aloadN (pc := 77) d0_77 rfl (go_bipush (pc := 78) d0_78 cb_32 ?_)
  refine go_newI (pc := 80) (ty := .int) rfl (by decide) ar_4 (List.mem_of_getElem? (i := 23) rfl) (List.mem_of_getElem? (i := 32) rfl) hm_0 (Or.inr ⟨List.mem_of_getElem? (i := 33) rfl, rfl⟩) rfl hn_0 (by decide) rfl rfl rfl rfl d0_80 d0_82 ?_
  refine go_aloadN (pc := 85) d0_85 rfl (go_bipush (pc := 86) d0_86 cb_32 ?_)
  refine go_newI (pc := 88) (ty := .int) rfl (by decide) ar_5 (List.mem_of_getElem? (i := 23) rfl) (List.mem_of_getElem? (i := 34) rfl) hm_0 (Or.inr ⟨List.mem_of_getElem? (i := 35) rfl, rfl⟩) rfl hn_0 (by decide) rfl rfl rfl rfl d0_88 d0_90 ?_
  refine go_aloadN (pc := 93) d0_93 rfl (go_bipush (pc := 94) d0_94 cb_32 ?_)
  refine go_newI (pc := 96) (ty := .int) rfl (by decide) ar_6 (List.mem_of_getElem? (i := 23) rfl) (List.mem_of_getElem? (i := 36) rfl) hm_0 (Or.inr ⟨List.mem_of_getElem? (i := 37) rfl, rfl⟩) rfl hn_0 (by decide) rfl rfl rfl rfl d0_96 d0_98 ?_
  refine go_aloadN (pc := 101) d0_101 rfl (go_iconst (pc := 102) d0_102 ci_4 ?_)
  refine go_newI (pc := 103) (ty := .int) rfl (by decide) ar_7 (List.mem_of_getElem? (i := 23) rfl) (List.mem_of_getElem? (i := 38) rfl) hm_0 (Or.inr ⟨List.mem_of_getElem? (i := 39) rfl, rfl⟩) rfl hn_0 (by decide) rfl rfl rfl rfl d0_103 d0_105 ?_
  refine go_aloadN (pc := 108) d0_108 rfl (go_iconst (pc := 109) d0_109 ci_4 ?_)
  refine go_newI (pc := 110) (ty := .boolean) rfl (by decide) ar_8 (List.mem_of_getElem? (i := 40) rfl) (List.mem_of_getElem? (i := 41) rfl) hm_0 (Or.inr ⟨List.mem_of_getElem? (i := 42) rfl, rfl⟩) rfl hn_0 (by decide) rfl rfl rfl rfl d0_110 d0_112 ?_
  refine go_aloadN (pc := 115) d0_115 rfl (go_bipush (pc := 116) d0_116 cb_64 ?_)
  refine go_newI (pc := 118) (ty := .int) rfl (by decide) ar_9 (List.mem_of_getElem? (i := 23) rfl) (List.mem_of_getElem? (i := 43) rfl) hm_0 (Or.inr ⟨List.mem_of_getElem? (i := 44) rfl, rfl⟩) rfl hn_0 (by decide) rfl rfl rfl rfl d0_118 d0_120 ?_
  refine go_aloadN (pc := 123) d0_123 rfl (go_bipush (pc := 124) d0_124 cb_64 ?_)
  refine go_newI (pc := 126) (ty := .int) rfl (by decide) ar_10 (List.mem_of_getElem? (i := 23) rfl) (List.mem_of_getElem? (i := 45) rfl) hm_0 (Or.inr ⟨List.mem_of_getElem? (i := 46) rfl, rfl⟩) rfl hn_0 (by decide) rfl rfl rfl rfl d0_126 d0_128 ?_
  refine go_aloadN (pc := 131) d0_131 rfl (go_bipush (pc := 132) d0_132 cb_32 ?_)
  refine go_newI (pc := 134) (ty := .int) rfl (by decide) ar_11 (List.mem_of_getElem? (i := 23) rfl) (List.mem_of_getElem? (i := 47) rfl) hm_0 (Or.inr ⟨List.mem_of_getElem? (i := 48) rfl, rfl⟩) rfl hn_0 (by decide) rfl rfl rfl rfl d0_134 d0_136 ?_
  refine go_aloadN (pc := 139) d0_139 rfl (go_bipush (pc := 140) d0_140 cb_8 ?_)
  refine go_newI (pc := 142) (ty := .int) rfl (by decide) ar_12 (List.mem_of_getElem? (i := 23) rfl) (List.mem_of_getElem? (i := 49) rfl) hm_0 (Or.inr ⟨List.mem_of_getElem? (i := 50) rfl, rfl⟩) rfl hn_0 (by decide) rfl rfl rfl rfl d0_142 d0_144 ?_
  refine go_aloadN (pc := 147) d0_147 rfl (go_bipush (pc := 148) d0_148 cb_32 ?_)
  refine go_newI (pc := 150) (ty := .int) rfl (by decide) ar_13 (List.mem_of_getElem? (i := 23) rfl) (List.mem_of_getElem? (i := 51) rfl) hm_0 (Or.inr ⟨List.mem_of_getElem? (i := 52) rfl, rfl⟩) rfl hn_0 (by decide) rfl rfl rfl rfl d0_150 d0_152 ?_
  refine go_aloadN (pc := 155) d0_155 rfl (go_bipush (pc := 156) d0_156 cb_32 ?_)
  refine go_newI (pc := 158) (ty := .boolean) rfl (by decide) ar_14 (List.mem_of_getElem? (i := 40) rfl) (List.mem_of_getElem? (i := 53) rfl) hm_0 (Or.inr ⟨List.mem_of_getElem? (i := 54) rfl, rfl⟩) rfl hn_0 (by decide) rfl rfl rfl rfl d0_158 d0_160 ?_
  refine go_aloadN (pc := 163) d0_163 rfl (go_bipush (pc := 164) d0_164 cb_32 ?_)
  refine go_newI (pc := 166) (ty := .int) rfl (by decide) ar_15 (List.mem_of_getElem? (i := 23) rfl) (List.mem_of_getElem? (i := 55) rfl) hm_0 (Or.inr ⟨List.mem_of_getElem? (i := 56) rfl, rfl⟩) rfl hn_0 (by decide) rfl rfl rfl rfl d0_166 d0_168 ?_
  refine go_aloadN (pc := 171) d0_171 rfl (go_bipush (pc := 172) d0_172 cb_33 ?_)
  refine go_newI (pc := 174) (ty := .int) rfl (by decide) ar_16 (List.mem_of_getElem? (i := 23) rfl) (List.mem_of_getElem? (i := 57) rfl) hm_0 (Or.inr ⟨List.mem_of_getElem? (i := 58) rfl, rfl⟩) rfl hn_0 (by decide) rfl rfl rfl rfl d0_174 d0_176 ?_
  refine go_aloadN (pc := 179) d0_179 rfl (go_bipush (pc := 180) d0_180 cb_33 ?_)
  refine go_newI (pc := 182) (ty := .int) rfl (by decide) ar_17 (List.mem_of_getElem? (i := 23) rfl) (List.mem_of_getElem? (i := 59) rfl) hm_0 (Or.inr ⟨List.mem_of_getElem? (i := 60) rfl, rfl⟩) rfl hn_0 (by decide) rfl rfl rfl rfl d0_182 d0_184 ?_
  refine go_aloadN (pc := 187) d0_187 rfl (go_bipush (pc := 188) d0_188 cb_33 ?_)
  refine go_newI (pc := 190) (ty := .int) rfl (by decide) ar_18 (List.mem_of_getElem? (i := 23) rfl) (List.mem_of_getElem? (i := 61) rfl) hm_0 (Or.inr ⟨List.mem_of_getElem? (i := 62) rfl, rfl⟩) rfl hn_0 (by decide) rfl rfl rfl rfl d0_190 d0_192 ?_
  refine go_aloadN (pc := 195) d0_195 rfl (go_bipush (pc := 196) d0_196 cb_33 ?_)
  refine go_newI (pc := 198) (ty := .int) rfl (by decide) ar_19 (List.mem_of_getElem? (i := 23) rfl) (List.mem_of_getElem? (i := 63) rfl) hm_0 (Or.inr ⟨List.mem_of_getElem? (i := 64) rfl, rfl⟩) rfl hn_0 (by decide) rfl rfl rfl rfl d0_198 d0_200 ?_
  refine go_aloadN (pc := 203) d0_203 rfl (go_bipush (pc := 204) d0_204 cb_33 ?_)
  refine go_newI (pc := 206) (ty := .int) rfl (by decide) ar_20 (List.mem_of_getElem? (i := 23) rfl) (List.mem_of_getElem? (i := 65) rfl) hm_0 (Or.inr ⟨List.mem_of_getElem? (i := 66) rfl, rfl⟩) rfl hn_0 (by decide) rfl rfl rfl rfl d0_206 d0_208 ?_
  refine go_aloadN (pc := 211) d0_211 rfl (go_bipush (pc := 212) d0_212 cb_33 ?_)
  refine go_newI (pc := 214) (ty := .int) rfl (by decide) ar_21 (List.mem_of_getElem? (i := 23) rfl) (List.mem_of_getElem? (i := 67) rfl) hm_0 (Or.inr ⟨List.mem_of_getElem? (i := 68) rfl, rfl⟩) rfl hn_0 (by decide) rfl rfl rfl rfl d0_214 d0_216 ?_
  refine go_iloadN (pc := 219) d0_219 rfl (go_istoreN (pc := 220) (L' := [.val (.ref 1), .val (.int v1), .val (.int v1)]) d0_220 rfl (go_iloadN (pc := 221) d0_221 rfl (go_bipush (pc := 222) d0_222 cb_16 ?_)))
  by_cases h23 : v1 < (16 : Int32)
  · refine go_icN (pc := 224) d0_224 (XT.ii_ge_f h23) ?_
    refine go_bipush (pc := 227) d0_227 cb_16 (go_istoreN (pc := 229) (L' := [.val (.ref 1), .val (.int v1), .val (.int (16 : Int32))]) d0_229 rfl ?_)
    exact k_init_230_ok (16 : Int32) (sA (sA (sA (sA (sA (sA (sA (sA (sA (sA (sA (sA (sA (sA (sA (sA (sA (sA (sA (sA (sA (sA (sI (sI (sI (sI (sI (sI (sI s0 0 (0 : Int32)) 1 (1 : Int32)) 2 (2 : Int32)) 3 (3 : Int32)) 4 (4096 : Int32)) 5 (300 : Int32)) 6 (255 : Int32)) 0 (rep 32 0)) 1 (rep 32 0)) 2 (rep 32 0)) 3 (rep 32 0)) 4 (rep 32 0)) 5 (rep 32 0)) 6 (rep 32 0)) 7 (rep 4 0)) 8 (rep 4 0)) 9 (rep 64 0)) 10 (rep 64 0)) 11 (rep 32 0)) 12 (rep 8 0)) 13 (rep 32 0)) 14 (rep 32 0)) 15 (rep 32 0)) 16 (rep 33 0)) 17 (rep 33 0)) 18 (rep 33 0)) 19 (rep 33 0)) 20 (rep 33 0)) 21 (rep 33 0)) (.val (.int v1)) (Or.inr ⟨_, rfl, rfl⟩) _ (by simpa only [if_pos h23] using hf)
  · refine go_icY (pc := 224) (pc' := 230) d0_224 (XT.ii_ge_t h23) j_224_6 ?_
    exact k_init_230_ok v1 (sA (sA (sA (sA (sA (sA (sA (sA (sA (sA (sA (sA (sA (sA (sA (sA (sA (sA (sA (sA (sA (sA (sI (sI (sI (sI (sI (sI (sI s0 0 (0 : Int32)) 1 (1 : Int32)) 2 (2 : Int32)) 3 (3 : Int32)) 4 (4096 : Int32)) 5 (300 : Int32)) 6 (255 : Int32)) 0 (rep 32 0)) 1 (rep 32 0)) 2 (rep 32 0)) 3 (rep 32 0)) 4 (rep 32 0)) 5 (rep 32 0)) 6 (rep 32 0)) 7 (rep 4 0)) 8 (rep 4 0)) 9 (rep 64 0)) 10 (rep 64 0)) 11 (rep 32 0)) 12 (rep 8 0)) 13 (rep 32 0)) 14 (rep 32 0)) 15 (rep 32 0)) 16 (rep 33 0)) 17 (rep 33 0)) 18 (rep 33 0)) 19 (rep 33 0)) 20 (rep 33 0)) 21 (rep 33 0)) (.val (.int v1)) (Or.inr ⟨_, rfl, rfl⟩) _ (by simpa only [if_neg h23] using hf)
theorem c_k_init (v1 : Int32) (o : S) (hf : k_init v1 = some o) : Call PP m0 [.ref 1, .int v1] (none, [(0, s0)]) (none, (none, [(22, o)])) := call_of_go pl_0 rfl (fun _ => rfl) (k_init_ok v1   _ hf)
set_option maxRecDepth 65536 in
set_option maxHeartbeats 4000000 in
theorem k_compile_44_ok  : ∀  (s : S) (x1 : Slot) (hx1 : k1 x1) (o : Int32 × S), k_compile_44 s = some o → Go PP m1 44 [.val (.ref 1), x1, .unset] [] (none, [(22, s)]) (some (.int o.1), (none, [(22, o.2)])) := by
  intro s x1 hx1 o hf
  unfold k_compile_44 at hf
  refine go_aloadN (pc := 44) d1_44 rfl (go_getI (pc := 45) fs_136 hm_1 d1_45 ?_)
  by_cases h1 : 0 < (gI s 13)
  · replace hf := (if_pos h1).symm.trans hf
    refine go_ifN (pc := 48) d1_48 (XT.i0_le_f h1) ?_
    refine go_bipush (pc := 51) d1_51 cb_m6 ?_
    cases hf
    exact go_iret (pc := 53) rfl d1_53
  · replace hf := (if_neg h1).symm.trans hf
    refine go_ifY (pc := 48) (pc' := 54) d1_48 (XT.i0_le_t h1) j_48_6 ?_
    refine go_aloadN (pc := 54) d1_54 rfl (go_iconst (pc := 55) d1_55 ci_1 (go_putZ (pc := 56) fs_105 hm_1 (wr_9 _) hn_1 (by decide) d1_56 (go_iconst (pc := 59) d1_59 ci_0 ?_)))
    cases hf
    exact go_iret (pc := 60) rfl d1_60
set_option maxRecDepth 65536 in
set_option maxHeartbeats 4000000 in
theorem k_compile_ok  : ∀  (s : S)  (o : Int32 × S), k_compile s = some o → Go PP m1 0 [.val (.ref 1), .unset, .unset] [] (none, [(22, s)]) (some (.int o.1), (none, [(22, o.2)])) := by
  intro s o hf
  unfold k_compile at hf
  refine go_aloadN (pc := 0) d1_0 rfl (go_iconst (pc := 1) d1_1 ci_0 (go_putI (pc := 2) fs_136 hm_1 (wr_13 _) hn_1 d1_2 (go_aloadN (pc := 5) d1_5 rfl (go_iconst (pc := 6) d1_6 ci_0 (go_putI (pc := 7) fs_139 hm_1 (wr_14 _) hn_1 d1_7 (go_iconst (pc := 10) d1_10 ci_0 (go_istoreN (pc := 11) (L' := [.val (.ref 1), .val (.int (0 : Int32)), .unset]) d1_11 rfl ?_)))))))
  refine go_iloadN (pc := 12) d1_12 rfl (go_aloadN (pc := 13) d1_13 rfl (go_getI (pc := 14) fs_102 hm_1 d1_14 ?_))
  by_cases h1 : (0 : Int32) < (gI s 8)
  · replace hf := (if_pos h1).symm.trans hf
    refine go_icN (pc := 17) d1_17 (XT.ii_ge_f h1) ?_
    refine go_iloadN (pc := 20) d1_20 rfl (go_bipush (pc := 21) d1_21 cb_32 ?_)
    by_cases h2 : (0 : Int32) < (32 : Int32)
    · replace hf := (if_pos h2).symm.trans hf
      refine go_icN (pc := 23) d1_23 (XT.ii_ge_f h2) ?_
      refine go_aloadN (pc := 26) d1_26 rfl (go_iloadN (pc := 27) d1_27 rfl ?_)
      exact nomatch hf
    · replace hf := (if_neg h2).symm.trans hf
      refine go_icY (pc := 23) (pc' := 44) d1_23 (XT.ii_ge_t h2) j_23_21 ?_
      exact k_compile_44_ok (sI (sI s 13 (0 : Int32)) 14 (0 : Int32)) (.val (.int (0 : Int32))) (Or.inr ⟨_, rfl, rfl⟩) _ hf
  · replace hf := (if_neg h1).symm.trans hf
    refine go_icY (pc := 17) (pc' := 44) d1_17 (XT.ii_ge_t h1) j_17_27 ?_
    exact k_compile_44_ok (sI (sI s 13 (0 : Int32)) 14 (0 : Int32)) (.val (.int (0 : Int32))) (Or.inr ⟨_, rfl, rfl⟩) _ hf
theorem c_k_compile (s : S) (o : Int32 × S) (hf : k_compile s = some o) : Call PP m1 [.ref 1] (none, [(22, s)]) (some (.int o.1), (none, [(22, o.2)])) := call_of_go pl_0 rfl (fun h => nomatch h) (k_compile_ok s   _ hf)
set_option maxRecDepth 65536 in
set_option maxHeartbeats 4000000 in
theorem k_isCompiled_ok  : ∀  (s : S)  (o : Int32), k_isCompiled s = o → Go PP m2 0 [.val (.ref 1)] [] (none, [(22, s)]) (some (.int o), (none, [(22, s)])) := by
  intro s o hf
  unfold k_isCompiled at hf
  refine go_aloadN (pc := 0) d2_0 rfl (go_getZ (pc := 1) fs_105 hm_2 d2_1 ?_)
  cases hf
  exact go_zret (pc := 4) rfl d2_4 rfl
theorem c_k_isCompiled (s : S) : Call PP m2 [.ref 1] (none, [(22, s)]) (some (.int (k_isCompiled s)), (none, [(22, s)])) := call_of_go pl_0 rfl (fun h => nomatch h) (k_isCompiled_ok s   _ rfl)
set_option maxRecDepth 65536 in
set_option maxHeartbeats 4000000 in
theorem k_roleOfA_ok  {s : S} : ∀ (v1 : Int32)   (o : Int32), k_roleOfA v1 = o → Go PP m5 0 [.val (.ref 1), .val (.int v1)] [] (none, [(22, s)]) (some (.int o), (none, [(22, s)])) := by
  intro v1 o hf
  unfold k_roleOfA at hf
  refine go_iloadN (pc := 0) d5_0 rfl (go_bipush (pc := 1) d5_1 cb_9 ?_)
  by_cases h1 : v1 = (9 : Int32)
  · replace hf := (if_pos h1).symm.trans hf
    refine go_icY (pc := 3) (pc' := 12) d5_3 (XT.ii_eq_t h1) j_3_9 ?_
    refine go_iconst (pc := 12) d5_12 ci_0 ?_
    cases hf
    exact go_iret (pc := 13) rfl d5_13
  · replace hf := (if_neg h1).symm.trans hf
    refine go_icN (pc := 3) d5_3 (XT.ii_eq_f h1) ?_
    refine go_iloadN (pc := 6) d5_6 rfl (go_bipush (pc := 7) d5_7 cb_10 ?_)
    by_cases h2 : v1 = (10 : Int32)
    · replace hf := (if_pos h2).symm.trans hf
      refine go_icN (pc := 9) d5_9 (XT.ii_ne_f h2) ?_
      refine go_iconst (pc := 12) d5_12 ci_0 ?_
      cases hf
      exact go_iret (pc := 13) rfl d5_13
    · replace hf := (if_neg h2).symm.trans hf
      refine go_icY (pc := 9) (pc' := 14) d5_9 (XT.ii_ne_t h2) j_9_5 ?_
      refine go_iconst (pc := 14) d5_14 ci_1 ?_
      cases hf
      exact go_iret (pc := 15) rfl d5_15
theorem c_k_roleOfA (v1 : Int32) (s : S) : Call PP m5 [.ref 1, .int v1] (none, [(22, s)]) (some (.int (k_roleOfA v1)), (none, [(22, s)])) := call_of_go pl_0 rfl (fun h => nomatch h) (k_roleOfA_ok v1   _ rfl)
set_option maxRecDepth 65536 in
set_option maxHeartbeats 4000000 in
theorem k_roleOfB_ok  {s : S} : ∀ (v1 : Int32)   (o : Int32), k_roleOfB v1 = o → Go PP m6 0 [.val (.ref 1), .val (.int v1)] [] (none, [(22, s)]) (some (.int o), (none, [(22, s)])) := by
  intro v1 o hf
  unfold k_roleOfB at hf
  refine go_iloadN (pc := 0) d6_0 rfl (go_iconst (pc := 1) d6_1 ci_1 ?_)
  by_cases h1 : v1 = (1 : Int32)
  · replace hf := (if_pos h1).symm.trans hf
    refine go_icN (pc := 2) d6_2 (XT.ii_ne_f h1) ?_
    refine go_iconst (pc := 5) d6_5 ci_3 ?_
    cases hf
    exact go_iret (pc := 6) rfl d6_6
  · replace hf := (if_neg h1).symm.trans hf
    refine go_icY (pc := 2) (pc' := 7) d6_2 (XT.ii_ne_t h1) j_2_5 ?_
    refine go_iloadN (pc := 7) d6_7 rfl (go_iconst (pc := 8) d6_8 ci_2 ?_)
    by_cases h2 : v1 = (2 : Int32)
    · replace hf := (if_pos h2).symm.trans hf
      refine go_icY (pc := 9) (pc' := 22) d6_9 (XT.ii_eq_t h2) j_9_13 ?_
      refine go_iconst (pc := 22) d6_22 ci_1 ?_
      cases hf
      exact go_iret (pc := 23) rfl d6_23
    · replace hf := (if_neg h2).symm.trans hf
      refine go_icN (pc := 9) d6_9 (XT.ii_eq_f h2) ?_
      refine go_iloadN (pc := 12) d6_12 rfl (go_iconst (pc := 13) d6_13 ci_3 ?_)
      by_cases h3 : v1 = (3 : Int32)
      · replace hf := (if_pos h3).symm.trans hf
        refine go_icY (pc := 14) (pc' := 22) d6_14 (XT.ii_eq_t h3) j_14_8 ?_
        refine go_iconst (pc := 22) d6_22 ci_1 ?_
        cases hf
        exact go_iret (pc := 23) rfl d6_23
      · replace hf := (if_neg h3).symm.trans hf
        refine go_icN (pc := 14) d6_14 (XT.ii_eq_f h3) ?_
        refine go_iloadN (pc := 17) d6_17 rfl (go_iconst (pc := 18) d6_18 ci_4 ?_)
        by_cases h4 : v1 = (4 : Int32)
        · replace hf := (if_pos h4).symm.trans hf
          refine go_icN (pc := 19) d6_19 (XT.ii_ne_f h4) ?_
          refine go_iconst (pc := 22) d6_22 ci_1 ?_
          cases hf
          exact go_iret (pc := 23) rfl d6_23
        · replace hf := (if_neg h4).symm.trans hf
          refine go_icY (pc := 19) (pc' := 24) d6_19 (XT.ii_ne_t h4) j_19_5 ?_
          refine go_iloadN (pc := 24) d6_24 rfl (go_iconst (pc := 25) d6_25 ci_5 ?_)
          by_cases h5 : v1 = (5 : Int32)
          · replace hf := (if_pos h5).symm.trans hf
            refine go_icN (pc := 26) d6_26 (XT.ii_ne_f h5) ?_
            refine go_iconst (pc := 29) d6_29 ci_2 ?_
            cases hf
            exact go_iret (pc := 30) rfl d6_30
          · replace hf := (if_neg h5).symm.trans hf
            refine go_icY (pc := 26) (pc' := 31) d6_26 (XT.ii_ne_t h5) j_26_5 ?_
            refine go_iconst (pc := 31) d6_31 ci_0 ?_
            cases hf
            exact go_iret (pc := 32) rfl d6_32
theorem c_k_roleOfB (v1 : Int32) (s : S) : Call PP m6 [.ref 1, .int v1] (none, [(22, s)]) (some (.int (k_roleOfB v1)), (none, [(22, s)])) := call_of_go pl_0 rfl (fun h => nomatch h) (k_roleOfB_ok v1   _ rfl)
set_option maxRecDepth 65536 in
set_option maxHeartbeats 4000000 in
theorem k_roleOfC_ok  {s : S} : ∀ (v1 : Int32)   (o : Int32), k_roleOfC v1 = o → Go PP m7 0 [.val (.ref 1), .val (.int v1)] [] (none, [(22, s)]) (some (.int o), (none, [(22, s)])) := by
  intro v1 o hf
  unfold k_roleOfC at hf
  refine go_iloadN (pc := 0) d7_0 rfl (go_iconst (pc := 1) d7_1 ci_3 ?_)
  by_cases h1 : v1 = (3 : Int32)
  · replace hf := (if_pos h1).symm.trans hf
    refine go_icN (pc := 2) d7_2 (XT.ii_ne_f h1) ?_
    refine go_iconst (pc := 5) d7_5 ci_3 ?_
    cases hf
    exact go_iret (pc := 6) rfl d7_6
  · replace hf := (if_neg h1).symm.trans hf
    refine go_icY (pc := 2) (pc' := 7) d7_2 (XT.ii_ne_t h1) j_2_5 ?_
    refine go_iloadN (pc := 7) d7_7 rfl (go_iconst (pc := 8) d7_8 ci_4 ?_)
    by_cases h2 : v1 = (4 : Int32)
    · replace hf := (if_pos h2).symm.trans hf
      refine go_icN (pc := 9) d7_9 (XT.ii_ne_f h2) ?_
      refine go_iconst (pc := 12) d7_12 ci_2 ?_
      cases hf
      exact go_iret (pc := 13) rfl d7_13
    · replace hf := (if_neg h2).symm.trans hf
      refine go_icY (pc := 9) (pc' := 14) d7_9 (XT.ii_ne_t h2) j_9_5 ?_
      refine go_iloadN (pc := 14) d7_14 rfl (go_iconst (pc := 15) d7_15 ci_5 ?_)
      by_cases h3 : v1 = (5 : Int32)
      · replace hf := (if_pos h3).symm.trans hf
        refine go_icN (pc := 16) d7_16 (XT.ii_ne_f h3) ?_
        refine go_iconst (pc := 19) d7_19 ci_1 ?_
        cases hf
        exact go_iret (pc := 20) rfl d7_20
      · replace hf := (if_neg h3).symm.trans hf
        refine go_icY (pc := 16) (pc' := 21) d7_16 (XT.ii_ne_t h3) j_16_5 ?_
        refine go_iconst (pc := 21) d7_21 ci_0 ?_
        cases hf
        exact go_iret (pc := 22) rfl d7_22
theorem c_k_roleOfC (v1 : Int32) (s : S) : Call PP m7 [.ref 1, .int v1] (none, [(22, s)]) (some (.int (k_roleOfC v1)), (none, [(22, s)])) := call_of_go pl_0 rfl (fun h => nomatch h) (k_roleOfC_ok v1   _ rfl)
set_option maxRecDepth 65536 in
set_option maxHeartbeats 4000000 in
theorem k_fits_ok  {s : S} : ∀ (v1 : Int32) (v2 : Int32)   (o : Int32), k_fits v1 v2 = o → Go PP m8 0 [.val (.ref 1), .val (.int v1), .val (.int v2)] [] (none, [(22, s)]) (some (.int o), (none, [(22, s)])) := by
  intro v1 v2 o hf
  unfold k_fits at hf
  refine go_iloadN (pc := 0) d8_0 rfl (go_iconst (pc := 1) d8_1 ci_1 ?_)
  by_cases h1 : v1 = (1 : Int32)
  · replace hf := (if_pos h1).symm.trans hf
    refine go_icN (pc := 2) d8_2 (XT.ii_ne_f h1) ?_
    refine go_iloadN (pc := 5) d8_5 rfl ?_
    by_cases h5 : v2 < 0
    · replace hf := (if_pos h5).symm.trans hf
      refine go_ifY (pc := 6) (pc' := 19) d8_6 (XT.i0_lt_t h5) j_6_13 ?_
      refine go_iconst (pc := 19) d8_19 ci_0 ?_
      cases hf
      exact go_zret (pc := 20) rfl d8_20 (show (0 : Int32) = nar .boolean (0 : Int32) by decide)
    · replace hf := (if_neg h5).symm.trans hf
      refine go_ifN (pc := 6) d8_6 (XT.i0_lt_f h5) ?_
      refine go_iloadN (pc := 9) d8_9 rfl (go_bipush (pc := 10) d8_10 cb_7 ?_)
      by_cases h6 : (7 : Int32) < v2
      · replace hf := (if_pos h6).symm.trans hf
        refine go_icY (pc := 12) (pc' := 19) d8_12 (XT.ii_gt_t h6) j_12_7 ?_
        refine go_iconst (pc := 19) d8_19 ci_0 ?_
        cases hf
        exact go_zret (pc := 20) rfl d8_20 (show (0 : Int32) = nar .boolean (0 : Int32) by decide)
      · replace hf := (if_neg h6).symm.trans hf
        refine go_icN (pc := 12) d8_12 (XT.ii_gt_f h6) ?_
        refine go_iconst (pc := 15) d8_15 ci_1 (go_goto (pc := 16) (pc' := 20) d8_16 j_16_4 ?_)
        cases hf
        exact go_zret (pc := 20) rfl d8_20 (show (1 : Int32) = nar .boolean (1 : Int32) by decide)
  · replace hf := (if_neg h1).symm.trans hf
    refine go_icY (pc := 2) (pc' := 21) d8_2 (XT.ii_ne_t h1) j_2_19 ?_
    refine go_iloadN (pc := 21) d8_21 rfl (go_iconst (pc := 22) d8_22 ci_2 ?_)
    by_cases h2 : v1 = (2 : Int32)
    · replace hf := (if_pos h2).symm.trans hf
      refine go_icN (pc := 23) d8_23 (XT.ii_ne_f h2) ?_
      refine go_iloadN (pc := 26) d8_26 rfl ?_
      by_cases h3 : v2 < 0
      · replace hf := (if_pos h3).symm.trans hf
        refine go_ifY (pc := 27) (pc' := 40) d8_27 (XT.i0_lt_t h3) j_27_13 ?_
        refine go_iconst (pc := 40) d8_40 ci_0 ?_
        cases hf
        exact go_zret (pc := 41) rfl d8_41 (show (0 : Int32) = nar .boolean (0 : Int32) by decide)
      · replace hf := (if_neg h3).symm.trans hf
        refine go_ifN (pc := 27) d8_27 (XT.i0_lt_f h3) ?_
        refine go_iloadN (pc := 30) d8_30 rfl (go_bipush (pc := 31) d8_31 cb_15 ?_)
        by_cases h4 : (15 : Int32) < v2
        · replace hf := (if_pos h4).symm.trans hf
          refine go_icY (pc := 33) (pc' := 40) d8_33 (XT.ii_gt_t h4) j_33_7 ?_
          refine go_iconst (pc := 40) d8_40 ci_0 ?_
          cases hf
          exact go_zret (pc := 41) rfl d8_41 (show (0 : Int32) = nar .boolean (0 : Int32) by decide)
        · replace hf := (if_neg h4).symm.trans hf
          refine go_icN (pc := 33) d8_33 (XT.ii_gt_f h4) ?_
          refine go_iconst (pc := 36) d8_36 ci_1 (go_goto (pc := 37) (pc' := 41) d8_37 j_37_4 ?_)
          cases hf
          exact go_zret (pc := 41) rfl d8_41 (show (1 : Int32) = nar .boolean (1 : Int32) by decide)
    · replace hf := (if_neg h2).symm.trans hf
      refine go_icY (pc := 23) (pc' := 42) d8_23 (XT.ii_ne_t h2) j_23_19 ?_
      refine go_iconst (pc := 42) d8_42 ci_1 ?_
      cases hf
      exact go_zret (pc := 43) rfl d8_43 (show (1 : Int32) = nar .boolean (1 : Int32) by decide)
theorem c_k_fits (v1 : Int32) (v2 : Int32) (s : S) : Call PP m8 [.ref 1, .int v1, .int v2] (none, [(22, s)]) (some (.int (k_fits v1 v2)), (none, [(22, s)])) := call_of_go pl_0 rfl (fun h => nomatch h) (k_fits_ok v1 v2   _ rfl)
set_option maxRecDepth 65536 in
set_option maxHeartbeats 4000000 in
theorem k_kept_ok  {s : S} : ∀ (v1 : Int32) (v2 : Int32)   (o : Int32), k_kept v1 v2 = o → Go PP m9 0 [.val (.ref 1), .val (.int v1), .val (.int v2)] [] (none, [(22, s)]) (some (.int o), (none, [(22, s)])) := by
  intro v1 v2 o hf
  unfold k_kept at hf
  refine go_iloadN (pc := 0) d9_0 rfl ?_
  by_cases h1 : v1 = 0
  · replace hf := (if_pos h1).symm.trans hf
    refine go_ifN (pc := 1) d9_1 (XT.i0_ne_f h1) ?_
    refine go_iconst (pc := 4) d9_4 ci_0 ?_
    cases hf
    exact go_iret (pc := 5) rfl d9_5
  · replace hf := (if_neg h1).symm.trans hf
    refine go_ifY (pc := 1) (pc' := 6) d9_1 (XT.i0_ne_t h1) j_1_5 ?_
    refine go_iloadN (pc := 6) d9_6 rfl ?_
    cases hf
    exact go_iret (pc := 7) rfl d9_7
theorem c_k_kept (v1 : Int32) (v2 : Int32) (s : S) : Call PP m9 [.ref 1, .int v1, .int v2] (none, [(22, s)]) (some (.int (k_kept v1 v2)), (none, [(22, s)])) := call_of_go pl_0 rfl (fun h => nomatch h) (k_kept_ok v1 v2   _ rfl)
set_option maxRecDepth 65536 in
set_option maxHeartbeats 4000000 in
theorem k_add_ok  : ∀ (v1 : Int32) (v2 : Int32) (v3 : Int32) (v4 : Int32) (s : S)  (o : Int32 × S), k_add v1 v2 v3 v4 s = some o → Go PP m10 0 [.val (.ref 1), .val (.int v1), .val (.int v2), .val (.int v3), .val (.int v4), .unset, .unset, .unset, .unset] [] (none, [(22, s)]) (some (.int o.1), (none, [(22, o.2)])) := by
  intro v1 v2 v3 v4 s o hf
  unfold k_add at hf
  refine go_aloadN (pc := 0) d10_0 rfl (go_getI (pc := 1) fs_102 hm_10 d10_1 (go_bipush (pc := 4) d10_4 cb_32 ?_))
  by_cases h1 : (gI s 8) < (32 : Int32)
  · replace hf := (if_pos h1).symm.trans hf
    refine go_icY (pc := 6) (pc' := 11) d10_6 (XT.ii_lt_t h1) j_6_5 ?_
    refine go_iloadN (pc := 11) d10_11 rfl (go_iconst (pc := 12) d10_12 ci_1 ?_)
    by_cases h2 : v1 < (1 : Int32)
    · replace hf := (if_pos h2).symm.trans hf
      refine go_icY (pc := 13) (pc' := 22) d10_13 (XT.ii_lt_t h2) j_13_9 ?_
      refine go_bipush (pc := 22) d10_22 cb_m2 ?_
      cases hf
      exact go_iret (pc := 24) rfl d10_24
    · replace hf := (if_neg h2).symm.trans hf
      refine go_icN (pc := 13) d10_13 (XT.ii_lt_f h2) ?_
      refine go_iloadN (pc := 16) d10_16 rfl (go_bipush (pc := 17) d10_17 cb_12 ?_)
      by_cases h3 : (12 : Int32) < v1
      · replace hf := (if_pos h3).symm.trans hf
        refine go_icN (pc := 19) d10_19 (XT.ii_le_f h3) ?_
        refine go_bipush (pc := 22) d10_22 cb_m2 ?_
        cases hf
        exact go_iret (pc := 24) rfl d10_24
      · replace hf := (if_neg h3).symm.trans hf
        refine go_icY (pc := 19) (pc' := 25) d10_19 (XT.ii_le_t h3) j_19_6 ?_
        refine go_aloadN (pc := 25) d10_25 rfl (go_iloadN (pc := 26) d10_26 rfl ?_)
        refine go_priv (pc := 27) (i := 0) (as := [.int v1]) (rest := []) (w' := (none, [(22, s)])) lk_0_118 pd_5 rfl oid_0 rfl rfl rfl rfl rfl rfl ⟨rfl, rfl, rfl, rfl, rfl⟩ d10_27 (c_k_roleOfA v1 s) ?_
        refine go_istore (pc := 30) (L' := [.val (.ref 1), .val (.int v1), .val (.int v2), .val (.int v3), .val (.int v4), .val (.int (k_roleOfA v1)), .unset, .unset, .unset]) d10_30 rfl (go_aloadN (pc := 32) d10_32 rfl (go_iloadN (pc := 33) d10_33 rfl ?_))
        refine go_priv (pc := 34) (i := 0) (as := [.int v1]) (rest := []) (w' := (none, [(22, s)])) lk_0_122 pd_6 rfl oid_0 rfl rfl rfl rfl rfl rfl ⟨rfl, rfl, rfl, rfl, rfl⟩ d10_34 (c_k_roleOfB v1 s) ?_
        refine go_istore (pc := 37) (L' := [.val (.ref 1), .val (.int v1), .val (.int v2), .val (.int v3), .val (.int v4), .val (.int (k_roleOfA v1)), .val (.int (k_roleOfB v1)), .unset, .unset]) d10_37 rfl (go_aloadN (pc := 39) d10_39 rfl (go_iloadN (pc := 40) d10_40 rfl ?_))
        refine go_priv (pc := 41) (i := 0) (as := [.int v1]) (rest := []) (w' := (none, [(22, s)])) lk_0_125 pd_7 rfl oid_0 rfl rfl rfl rfl rfl rfl ⟨rfl, rfl, rfl, rfl, rfl⟩ d10_41 (c_k_roleOfC v1 s) ?_
        refine go_istore (pc := 44) (L' := [.val (.ref 1), .val (.int v1), .val (.int v2), .val (.int v3), .val (.int v4), .val (.int (k_roleOfA v1)), .val (.int (k_roleOfB v1)), .val (.int (k_roleOfC v1)), .unset]) d10_44 rfl (go_aloadN (pc := 46) d10_46 rfl (go_iload (pc := 47) d10_47 rfl (go_iloadN (pc := 49) d10_49 rfl ?_)))
        refine go_priv (pc := 50) (i := 0) (as := [.int (k_roleOfA v1), .int v2]) (rest := []) (w' := (none, [(22, s)])) lk_0_128 pd_8 rfl oid_0 rfl rfl rfl rfl rfl rfl ⟨rfl, rfl, rfl, rfl, rfl⟩ d10_50 (c_k_fits (k_roleOfA v1) v2 s) ?_
        by_cases h4 : (k_fits (k_roleOfA v1) v2) = 0
        · replace hf := (if_pos h4).symm.trans hf
          refine go_ifY (pc := 53) (pc' := 77) d10_53 (XT.i0_eq_t h4) j_53_24 ?_
          refine go_bipush (pc := 77) d10_77 cb_m3 ?_
          cases hf
          exact go_iret (pc := 79) rfl d10_79
        · replace hf := (if_neg h4).symm.trans hf
          refine go_ifN (pc := 53) d10_53 (XT.i0_eq_f h4) ?_
          refine go_aloadN (pc := 56) d10_56 rfl (go_iload (pc := 57) d10_57 rfl (go_iloadN (pc := 59) d10_59 rfl ?_))
          refine go_priv (pc := 60) (i := 0) (as := [.int (k_roleOfB v1), .int v3]) (rest := []) (w' := (none, [(22, s)])) lk_0_128 pd_8 rfl oid_0 rfl rfl rfl rfl rfl rfl ⟨rfl, rfl, rfl, rfl, rfl⟩ d10_60 (c_k_fits (k_roleOfB v1) v3 s) ?_
          by_cases h5 : (k_fits (k_roleOfB v1) v3) = 0
          · replace hf := (if_pos h5).symm.trans hf
            refine go_ifY (pc := 63) (pc' := 77) d10_63 (XT.i0_eq_t h5) j_63_14 ?_
            refine go_bipush (pc := 77) d10_77 cb_m3 ?_
            cases hf
            exact go_iret (pc := 79) rfl d10_79
          · replace hf := (if_neg h5).symm.trans hf
            refine go_ifN (pc := 63) d10_63 (XT.i0_eq_f h5) ?_
            refine go_aloadN (pc := 66) d10_66 rfl (go_iload (pc := 67) d10_67 rfl (go_iload (pc := 69) d10_69 rfl ?_))
            refine go_priv (pc := 71) (i := 0) (as := [.int (k_roleOfC v1), .int v4]) (rest := []) (w' := (none, [(22, s)])) lk_0_128 pd_8 rfl oid_0 rfl rfl rfl rfl rfl rfl ⟨rfl, rfl, rfl, rfl, rfl⟩ d10_71 (c_k_fits (k_roleOfC v1) v4 s) ?_
            by_cases h6 : (k_fits (k_roleOfC v1) v4) = 0
            · replace hf := (if_pos h6).symm.trans hf
              refine go_ifN (pc := 74) d10_74 (XT.i0_ne_f h6) ?_
              refine go_bipush (pc := 77) d10_77 cb_m3 ?_
              cases hf
              exact go_iret (pc := 79) rfl d10_79
            · replace hf := (if_neg h6).symm.trans hf
              refine go_ifY (pc := 74) (pc' := 80) d10_74 (XT.i0_ne_t h6) j_74_6 ?_
              refine go_aloadN (pc := 80) d10_80 rfl (go_getI (pc := 81) fs_102 hm_10 d10_81 (go_istore (pc := 84) (L' := [.val (.ref 1), .val (.int v1), .val (.int v2), .val (.int v3), .val (.int v4), .val (.int (k_roleOfA v1)), .val (.int (k_roleOfB v1)), .val (.int (k_roleOfC v1)), .val (.int (gI s 8))]) d10_84 rfl (go_aloadN (pc := 86) d10_86 rfl (go_getA (pc := 87) fa_31 hm_10 d10_87 rfl (go_iload (pc := 90) d10_90 rfl (go_iloadN (pc := 92) d10_92 rfl ?_))))))
              obtain ⟨a93, e7, hf⟩ := Option.bind_eq_some_iff.mp hf
              refine go_iastore (pc := 93) (q := 0) ar_0 rfl hn_10 e7 d10_93 ?_
              refine go_aloadN (pc := 94) d10_94 rfl (go_getA (pc := 95) fa_35 hm_10 d10_95 rfl (go_iload (pc := 98) d10_98 rfl (go_aloadN (pc := 100) d10_100 rfl (go_iload (pc := 101) d10_101 rfl (go_iloadN (pc := 103) d10_103 rfl ?_)))))
              refine go_priv (pc := 104) (i := 0) (as := [.int (k_roleOfA v1), .int v2]) (rest := [.int (gI s 8), .ref 3]) (w' := (none, [(22, sA s 0 a93)])) lk_0_132 pd_9 rfl oid_0 rfl rfl rfl rfl rfl rfl ⟨rfl, rfl, rfl, rfl, rfl⟩ d10_104 (c_k_kept (k_roleOfA v1) v2 (sA s 0 a93)) ?_
              obtain ⟨a107, e8, hf⟩ := Option.bind_eq_some_iff.mp hf
              refine go_iastore (pc := 107) (q := 1) ar_1 rfl hn_10 e8 d10_107 ?_
              refine go_aloadN (pc := 108) d10_108 rfl (go_getA (pc := 109) fa_38 hm_10 d10_109 rfl (go_iload (pc := 112) d10_112 rfl (go_aloadN (pc := 114) d10_114 rfl (go_iload (pc := 115) d10_115 rfl (go_iloadN (pc := 117) d10_117 rfl ?_)))))
              refine go_priv (pc := 118) (i := 0) (as := [.int (k_roleOfB v1), .int v3]) (rest := [.int (gI s 8), .ref 4]) (w' := (none, [(22, sA (sA s 0 a93) 1 a107)])) lk_0_132 pd_9 rfl oid_0 rfl rfl rfl rfl rfl rfl ⟨rfl, rfl, rfl, rfl, rfl⟩ d10_118 (c_k_kept (k_roleOfB v1) v3 (sA (sA s 0 a93) 1 a107)) ?_
              obtain ⟨a121, e9, hf⟩ := Option.bind_eq_some_iff.mp hf
              refine go_iastore (pc := 121) (q := 2) ar_2 rfl hn_10 e9 d10_121 ?_
              refine go_aloadN (pc := 122) d10_122 rfl (go_getA (pc := 123) fa_41 hm_10 d10_123 rfl (go_iload (pc := 126) d10_126 rfl (go_aloadN (pc := 128) d10_128 rfl (go_iload (pc := 129) d10_129 rfl (go_iload (pc := 131) d10_131 rfl ?_)))))
              refine go_priv (pc := 133) (i := 0) (as := [.int (k_roleOfC v1), .int v4]) (rest := [.int (gI s 8), .ref 5]) (w' := (none, [(22, sA (sA (sA s 0 a93) 1 a107) 2 a121)])) lk_0_132 pd_9 rfl oid_0 rfl rfl rfl rfl rfl rfl ⟨rfl, rfl, rfl, rfl, rfl⟩ d10_133 (c_k_kept (k_roleOfC v1) v4 (sA (sA (sA s 0 a93) 1 a107) 2 a121)) ?_
              obtain ⟨a136, e10, hf⟩ := Option.bind_eq_some_iff.mp hf
              refine go_iastore (pc := 136) (q := 3) ar_3 rfl hn_10 e10 d10_136 ?_
              refine go_aloadN (pc := 137) d10_137 rfl (go_iload (pc := 138) d10_138 rfl (go_iconst (pc := 140) d10_140 ci_1 (go_iadd (pc := 141) d10_141 (go_putI (pc := 142) fs_102 hm_10 (wr_8 _) hn_10 d10_142 (go_aloadN (pc := 145) d10_145 rfl (go_iconst (pc := 146) d10_146 ci_0 (go_putZ (pc := 147) fs_105 hm_10 (wr_9 _) hn_10 (by decide) d10_147 ?_)))))))
              refine go_iload (pc := 150) d10_150 rfl ?_
              cases hf
              exact go_iret (pc := 152) rfl d10_152
  · replace hf := (if_neg h1).symm.trans hf
    refine go_icN (pc := 6) d10_6 (XT.ii_lt_f h1) ?_
    refine go_iconst (pc := 9) d10_9 ci_m1 ?_
    cases hf
    exact go_iret (pc := 10) rfl d10_10
theorem c_k_add (v1 : Int32) (v2 : Int32) (v3 : Int32) (v4 : Int32) (s : S) (o : Int32 × S) (hf : k_add v1 v2 v3 v4 s = some o) : Call PP m10 [.ref 1, .int v1, .int v2, .int v3, .int v4] (none, [(22, s)]) (some (.int o.1), (none, [(22, o.2)])) := call_of_go pl_0 rfl (fun h => nomatch h) (k_add_ok v1 v2 v3 v4 s   _ hf)
set_option maxRecDepth 65536 in
set_option maxHeartbeats 4000000 in
theorem k_length_ok  : ∀  (s : S)  (o : Int32), k_length s = o → Go PP m11 0 [.val (.ref 1)] [] (none, [(22, s)]) (some (.int o), (none, [(22, s)])) := by
  intro s o hf
  unfold k_length at hf
  refine go_aloadN (pc := 0) d11_0 rfl (go_getI (pc := 1) fs_102 hm_11 d11_1 ?_)
  cases hf
  exact go_iret (pc := 4) rfl d11_4
theorem c_k_length (s : S) : Call PP m11 [.ref 1] (none, [(22, s)]) (some (.int (k_length s)), (none, [(22, s)])) := call_of_go pl_0 rfl (fun h => nomatch h) (k_length_ok s   _ rfl)
set_option maxRecDepth 65536 in
set_option maxHeartbeats 4000000 in
theorem k_getField_ok  : ∀ (v1 : Int32) (v2 : Int32) (s : S)  (o : Int32), k_getField v1 v2 s = some o → Go PP m12 0 [.val (.ref 1), .val (.int v1), .val (.int v2)] [] (none, [(22, s)]) (some (.int o), (none, [(22, s)])) := by
  intro v1 v2 s o hf
  unfold k_getField at hf
  refine go_iloadN (pc := 0) d12_0 rfl ?_
  by_cases h1 : v1 < 0
  · replace hf := (if_pos h1).symm.trans hf
    refine go_ifY (pc := 1) (pc' := 18) d12_1 (XT.i0_lt_t h1) j_1_17 ?_
    refine go_iconst (pc := 18) d12_18 ci_0 ?_
    cases hf
    exact go_iret (pc := 19) rfl d12_19
  · replace hf := (if_neg h1).symm.trans hf
    refine go_ifN (pc := 1) d12_1 (XT.i0_lt_f h1) ?_
    refine go_iloadN (pc := 4) d12_4 rfl (go_aloadN (pc := 5) d12_5 rfl (go_getI (pc := 6) fs_102 hm_12 d12_6 ?_))
    by_cases h2 : v1 < (gI s 8)
    · replace hf := (if_pos h2).symm.trans hf
      refine go_icN (pc := 9) d12_9 (XT.ii_ge_f h2) ?_
      refine go_iloadN (pc := 12) d12_12 rfl (go_bipush (pc := 13) d12_13 cb_32 ?_)
      by_cases h3 : v1 < (32 : Int32)
      · replace hf := (if_pos h3).symm.trans hf
        refine go_icY (pc := 15) (pc' := 20) d12_15 (XT.ii_lt_t h3) j_15_5 ?_
        refine go_iloadN (pc := 20) d12_20 rfl ?_
        by_cases h4 : v2 = 0
        · replace hf := (if_pos h4).symm.trans hf
          refine go_ifN (pc := 21) d12_21 (XT.i0_ne_f h4) ?_
          refine go_aloadN (pc := 24) d12_24 rfl (go_getA (pc := 25) fa_31 hm_12 d12_25 rfl (go_iloadN (pc := 28) d12_28 rfl ?_))
          obtain ⟨a29, e11, hf⟩ := Option.bind_eq_some_iff.mp hf
          refine go_iaload (pc := 29) (q := 0) ar_0 rfl e11 d12_29 ?_
          cases hf
          exact go_iret (pc := 30) rfl d12_30
        · replace hf := (if_neg h4).symm.trans hf
          refine go_ifY (pc := 21) (pc' := 31) d12_21 (XT.i0_ne_t h4) j_21_10 ?_
          refine go_iloadN (pc := 31) d12_31 rfl (go_iconst (pc := 32) d12_32 ci_1 ?_)
          by_cases h5 : v2 = (1 : Int32)
          · replace hf := (if_pos h5).symm.trans hf
            refine go_icN (pc := 33) d12_33 (XT.ii_ne_f h5) ?_
            refine go_aloadN (pc := 36) d12_36 rfl (go_getA (pc := 37) fa_35 hm_12 d12_37 rfl (go_iloadN (pc := 40) d12_40 rfl ?_))
            obtain ⟨a41, e10, hf⟩ := Option.bind_eq_some_iff.mp hf
            refine go_iaload (pc := 41) (q := 1) ar_1 rfl e10 d12_41 ?_
            cases hf
            exact go_iret (pc := 42) rfl d12_42
          · replace hf := (if_neg h5).symm.trans hf
            refine go_icY (pc := 33) (pc' := 43) d12_33 (XT.ii_ne_t h5) j_33_10 ?_
            refine go_iloadN (pc := 43) d12_43 rfl (go_iconst (pc := 44) d12_44 ci_2 ?_)
            by_cases h6 : v2 = (2 : Int32)
            · replace hf := (if_pos h6).symm.trans hf
              refine go_icN (pc := 45) d12_45 (XT.ii_ne_f h6) ?_
              refine go_aloadN (pc := 48) d12_48 rfl (go_getA (pc := 49) fa_38 hm_12 d12_49 rfl (go_iloadN (pc := 52) d12_52 rfl ?_))
              obtain ⟨a53, e9, hf⟩ := Option.bind_eq_some_iff.mp hf
              refine go_iaload (pc := 53) (q := 2) ar_2 rfl e9 d12_53 ?_
              cases hf
              exact go_iret (pc := 54) rfl d12_54
            · replace hf := (if_neg h6).symm.trans hf
              refine go_icY (pc := 45) (pc' := 55) d12_45 (XT.ii_ne_t h6) j_45_10 ?_
              refine go_iloadN (pc := 55) d12_55 rfl (go_iconst (pc := 56) d12_56 ci_3 ?_)
              by_cases h7 : v2 = (3 : Int32)
              · replace hf := (if_pos h7).symm.trans hf
                refine go_icN (pc := 57) d12_57 (XT.ii_ne_f h7) ?_
                refine go_aloadN (pc := 60) d12_60 rfl (go_getA (pc := 61) fa_41 hm_12 d12_61 rfl (go_iloadN (pc := 64) d12_64 rfl ?_))
                obtain ⟨a65, e8, hf⟩ := Option.bind_eq_some_iff.mp hf
                refine go_iaload (pc := 65) (q := 3) ar_3 rfl e8 d12_65 ?_
                cases hf
                exact go_iret (pc := 66) rfl d12_66
              · replace hf := (if_neg h7).symm.trans hf
                refine go_icY (pc := 57) (pc' := 67) d12_57 (XT.ii_ne_t h7) j_57_10 ?_
                refine go_iconst (pc := 67) d12_67 ci_0 ?_
                cases hf
                exact go_iret (pc := 68) rfl d12_68
      · replace hf := (if_neg h3).symm.trans hf
        refine go_icN (pc := 15) d12_15 (XT.ii_lt_f h3) ?_
        refine go_iconst (pc := 18) d12_18 ci_0 ?_
        cases hf
        exact go_iret (pc := 19) rfl d12_19
    · replace hf := (if_neg h2).symm.trans hf
      refine go_icY (pc := 9) (pc' := 18) d12_9 (XT.ii_ge_t h2) j_9_9 ?_
      refine go_iconst (pc := 18) d12_18 ci_0 ?_
      cases hf
      exact go_iret (pc := 19) rfl d12_19
theorem c_k_getField (v1 : Int32) (v2 : Int32) (s : S) (o : Int32) (hf : k_getField v1 v2 s = some o) : Call PP m12 [.ref 1, .int v1, .int v2] (none, [(22, s)]) (some (.int o), (none, [(22, s)])) := call_of_go pl_0 rfl (fun h => nomatch h) (k_getField_ok v1 v2 s   _ hf)
set_option maxRecDepth 65536 in
set_option maxHeartbeats 4000000 in
theorem h_reg_ok_n1  {y0 : S} : ∀ (v0 : Int32)   (o : Int32), h_reg v0 = o → Go PP m3 0 [.val (.int v0)] [] (none, [(22, y0)]) (some (.int o), (none, [(22, y0)])) := by
  intro v0 o hf
  unfold h_reg at hf
  refine go_iloadN (pc := 0) d3_0 rfl ?_
  by_cases h1 : v0 < 0
  · replace hf := (if_pos h1).symm.trans hf
    refine go_ifY (pc := 1) (pc' := 14) d3_1 (XT.i0_lt_t h1) j_1_13 ?_
    refine go_iconst (pc := 14) d3_14 ci_0 ?_
    cases hf
    exact go_zret (pc := 15) rfl d3_15 (show (0 : Int32) = nar .boolean (0 : Int32) by decide)
  · replace hf := (if_neg h1).symm.trans hf
    refine go_ifN (pc := 1) d3_1 (XT.i0_lt_f h1) ?_
    refine go_iloadN (pc := 4) d3_4 rfl (go_bipush (pc := 5) d3_5 cb_7 ?_)
    by_cases h2 : (7 : Int32) < v0
    · replace hf := (if_pos h2).symm.trans hf
      refine go_icY (pc := 7) (pc' := 14) d3_7 (XT.ii_gt_t h2) j_7_7 ?_
      refine go_iconst (pc := 14) d3_14 ci_0 ?_
      cases hf
      exact go_zret (pc := 15) rfl d3_15 (show (0 : Int32) = nar .boolean (0 : Int32) by decide)
    · replace hf := (if_neg h2).symm.trans hf
      refine go_icN (pc := 7) d3_7 (XT.ii_gt_f h2) ?_
      refine go_iconst (pc := 10) d3_10 ci_1 (go_goto (pc := 11) (pc' := 15) d3_11 j_11_4 ?_)
      cases hf
      exact go_zret (pc := 15) rfl d3_15 (show (1 : Int32) = nar .boolean (1 : Int32) by decide)
theorem c_h_reg_n1 (v0 : Int32) (y0 : S) : Call PP m3 [.int v0] (none, [(22, y0)]) (some (.int (h_reg v0)), (none, [(22, y0)])) := call_of_go pl_1 rfl (fun h => nomatch h) (h_reg_ok_n1 v0   _ rfl)
set_option maxRecDepth 65536 in
set_option maxHeartbeats 4000000 in
theorem h_off_ok_n1  {y0 : S} : ∀ (v0 : Int32)   (o : Int32), h_off v0 = o → Go PP m4 0 [.val (.int v0)] [] (none, [(22, y0)]) (some (.int o), (none, [(22, y0)])) := by
  intro v0 o hf
  unfold h_off at hf
  refine go_iloadN (pc := 0) d4_0 rfl ?_
  by_cases h1 : v0 < 0
  · replace hf := (if_pos h1).symm.trans hf
    refine go_ifY (pc := 1) (pc' := 14) d4_1 (XT.i0_lt_t h1) j_1_13 ?_
    refine go_iconst (pc := 14) d4_14 ci_0 ?_
    cases hf
    exact go_zret (pc := 15) rfl d4_15 (show (0 : Int32) = nar .boolean (0 : Int32) by decide)
  · replace hf := (if_neg h1).symm.trans hf
    refine go_ifN (pc := 1) d4_1 (XT.i0_lt_f h1) ?_
    refine go_iloadN (pc := 4) d4_4 rfl (go_bipush (pc := 5) d4_5 cb_15 ?_)
    by_cases h2 : (15 : Int32) < v0
    · replace hf := (if_pos h2).symm.trans hf
      refine go_icY (pc := 7) (pc' := 14) d4_7 (XT.ii_gt_t h2) j_7_7 ?_
      refine go_iconst (pc := 14) d4_14 ci_0 ?_
      cases hf
      exact go_zret (pc := 15) rfl d4_15 (show (0 : Int32) = nar .boolean (0 : Int32) by decide)
    · replace hf := (if_neg h2).symm.trans hf
      refine go_icN (pc := 7) d4_7 (XT.ii_gt_f h2) ?_
      refine go_iconst (pc := 10) d4_10 ci_1 (go_goto (pc := 11) (pc' := 15) d4_11 j_11_4 ?_)
      cases hf
      exact go_zret (pc := 15) rfl d4_15 (show (1 : Int32) = nar .boolean (1 : Int32) by decide)
theorem c_h_off_n1 (v0 : Int32) (y0 : S) : Call PP m4 [.int v0] (none, [(22, y0)]) (some (.int (h_off v0)), (none, [(22, y0)])) := call_of_go pl_1 rfl (fun h => nomatch h) (h_off_ok_n1 v0   _ rfl)
set_option maxRecDepth 65536 in
set_option maxHeartbeats 4000000 in
theorem law_417_ok  : ∀ (p0 : Int32) (p1 : Int32) (t0 : S) (x0 : Slot) (x1 : Slot) (x2 : Slot) (x3 : Slot) (x5 : Slot) (x6 : Slot) (x7 : Slot) (x8 : Slot) (x9 : Slot) (x10 : Slot) (hx0 : k1 x0) (hx1 : k1 x1) (hx2 : k1 x2) (hx3 : k1 x3) (hx5 : k1 x5) (hx6 : k1 x6) (hx7 : k1 x7) (hx8 : k1 x8) (hx9 : k1 x9) (hx10 : k1 x10) (o : Int32 × S), law_417 p0 p1 t0 = some o → Go PP m13 417 [x0, x1, x2, x3, .val (.ref 1), x5, x6, x7, x8, x9, x10] [.int p0, .int p1] (none, [(22, t0)]) (some (.int o.1), (none, [(22, o.2)])) := by
  intro p0 p1 t0 x0 x1 x2 x3 x5 x6 x7 x8 x9 x10 hx0 hx1 hx2 hx3 hx5 hx6 hx7 hx8 hx9 hx10 o hf
  unfold law_417 at hf
  by_cases h1 : p1 = p0
  · replace hf := (if_pos h1).symm.trans hf
    refine go_icY (pc := 417) (pc' := 422) d13_417 (XT.ii_eq_t h1) j_417_5 ?_
    refine go_iconst (pc := 422) d13_422 ci_1 ?_
    cases hf
    exact go_zret (pc := 423) rfl d13_423 (show (1 : Int32) = nar .boolean (1 : Int32) by decide)
  · replace hf := (if_neg h1).symm.trans hf
    refine go_icN (pc := 417) d13_417 (XT.ii_eq_f h1) ?_
    refine go_iconst (pc := 420) d13_420 ci_0 ?_
    cases hf
    exact go_zret (pc := 421) rfl d13_421 (show (0 : Int32) = nar .boolean (0 : Int32) by decide)
set_option maxRecDepth 65536 in
set_option maxHeartbeats 4000000 in
theorem law_396_ok  : ∀ (v7 : Int32) (v10 : Int32) (p0 : Int32) (p1 : Int32) (t0 : S) (x0 : Slot) (x1 : Slot) (x2 : Slot) (x3 : Slot) (x5 : Slot) (x6 : Slot) (x8 : Slot) (x9 : Slot) (hx0 : k1 x0) (hx1 : k1 x1) (hx2 : k1 x2) (hx3 : k1 x3) (hx5 : k1 x5) (hx6 : k1 x6) (hx8 : k1 x8) (hx9 : k1 x9) (o : Int32 × S), law_396 v7 v10 p0 p1 t0 = some o → Go PP m13 396 [x0, x1, x2, x3, .val (.ref 1), x5, x6, .val (.int v7), x8, x9, .val (.int v10)] [.int p0, .int p1] (none, [(22, t0)]) (some (.int o.1), (none, [(22, o.2)])) := by
  intro v7 v10 p0 p1 t0 x0 x1 x2 x3 x5 x6 x8 x9 hx0 hx1 hx2 hx3 hx5 hx6 hx8 hx9 o hf
  unfold law_396 at hf
  by_cases h1 : p1 = p0
  · replace hf := (if_pos h1).symm.trans hf
    refine go_icN (pc := 396) d13_396 (XT.ii_ne_f h1) ?_
    refine go_aload (pc := 399) d13_399 rfl (go_iconst (pc := 401) d13_401 ci_0 (go_iconst (pc := 402) d13_402 ci_3 ?_))
    obtain ⟨r403, e2, hf⟩ := Option.bind_eq_some_iff.mp hf
    refine go_virt (pc := 403) (i := 0) (as := [.int (0 : Int32), .int (3 : Int32)]) (rest := []) (w' := (none, [(22, t0)])) lk_1_36 pd_12 rfl oid_0 rfl rfl rfl rfl rfl rfl ⟨rfl, rfl, rfl, rfl, rfl⟩ d13_403 (c_k_getField (0 : Int32) (3 : Int32) t0 _ e2) ?_
    refine go_iload (pc := 406) d13_406 rfl ?_
    by_cases h3 : v10 = 0
    · refine go_ifY (pc := 408) (pc' := 416) d13_408 (XT.i0_eq_t h3) j_408_8 ?_
      refine go_iconst (pc := 416) d13_416 ci_0 ?_
      exact law_417_ok (0 : Int32) r403 t0 x0 x1 x2 x3 x5 x6 (.val (.int v7)) x8 x9 (.val (.int v10)) hx0 hx1 hx2 hx3 hx5 hx6 (Or.inr ⟨_, rfl, rfl⟩) hx8 hx9 (Or.inr ⟨_, rfl, rfl⟩) _ (by simpa only [if_pos h3] using hf)
    · refine go_ifN (pc := 408) d13_408 (XT.i0_eq_f h3) ?_
      refine go_iload (pc := 411) d13_411 rfl (go_goto (pc := 413) (pc' := 417) d13_413 j_413_4 ?_)
      exact law_417_ok v7 r403 t0 x0 x1 x2 x3 x5 x6 (.val (.int v7)) x8 x9 (.val (.int v10)) hx0 hx1 hx2 hx3 hx5 hx6 (Or.inr ⟨_, rfl, rfl⟩) hx8 hx9 (Or.inr ⟨_, rfl, rfl⟩) _ (by simpa only [if_neg h3] using hf)
  · replace hf := (if_neg h1).symm.trans hf
    refine go_icY (pc := 396) (pc' := 420) d13_396 (XT.ii_ne_t h1) j_396_24 ?_
    refine go_iconst (pc := 420) d13_420 ci_0 ?_
    cases hf
    exact go_zret (pc := 421) rfl d13_421 (show (0 : Int32) = nar .boolean (0 : Int32) by decide)
set_option maxRecDepth 65536 in
set_option maxHeartbeats 4000000 in
theorem law_373_ok  : ∀ (v6 : Int32) (v7 : Int32) (v10 : Int32) (p0 : Int32) (p1 : Int32) (t0 : S) (x0 : Slot) (x1 : Slot) (x2 : Slot) (x3 : Slot) (x5 : Slot) (x8 : Slot) (x9 : Slot) (hx0 : k1 x0) (hx1 : k1 x1) (hx2 : k1 x2) (hx3 : k1 x3) (hx5 : k1 x5) (hx8 : k1 x8) (hx9 : k1 x9) (o : Int32 × S), law_373 v6 v7 v10 p0 p1 t0 = some o → Go PP m13 373 [x0, x1, x2, x3, .val (.ref 1), x5, .val (.int v6), .val (.int v7), x8, x9, .val (.int v10)] [.int p0, .int p1] (none, [(22, t0)]) (some (.int o.1), (none, [(22, o.2)])) := by
  intro v6 v7 v10 p0 p1 t0 x0 x1 x2 x3 x5 x8 x9 hx0 hx1 hx2 hx3 hx5 hx8 hx9 o hf
  unfold law_373 at hf
  by_cases h1 : p1 = p0
  · replace hf := (if_pos h1).symm.trans hf
    refine go_icY (pc := 373) (pc' := 378) d13_373 (XT.ii_eq_t h1) j_373_5 ?_
    refine go_aload (pc := 378) d13_378 rfl (go_iconst (pc := 380) d13_380 ci_0 (go_iconst (pc := 381) d13_381 ci_2 ?_))
    obtain ⟨r382, e2, hf⟩ := Option.bind_eq_some_iff.mp hf
    refine go_virt (pc := 382) (i := 0) (as := [.int (0 : Int32), .int (2 : Int32)]) (rest := []) (w' := (none, [(22, t0)])) lk_1_36 pd_12 rfl oid_0 rfl rfl rfl rfl rfl rfl ⟨rfl, rfl, rfl, rfl, rfl⟩ d13_382 (c_k_getField (0 : Int32) (2 : Int32) t0 _ e2) ?_
    refine go_iload (pc := 385) d13_385 rfl ?_
    by_cases h3 : v10 = 0
    · refine go_ifY (pc := 387) (pc' := 395) d13_387 (XT.i0_eq_t h3) j_387_8 ?_
      refine go_iconst (pc := 395) d13_395 ci_0 ?_
      exact law_396_ok v7 v10 (0 : Int32) r382 t0 x0 x1 x2 x3 x5 (.val (.int v6)) x8 x9 hx0 hx1 hx2 hx3 hx5 (Or.inr ⟨_, rfl, rfl⟩) hx8 hx9 _ (by simpa only [if_pos h3] using hf)
    · refine go_ifN (pc := 387) d13_387 (XT.i0_eq_f h3) ?_
      refine go_iload (pc := 390) d13_390 rfl (go_goto (pc := 392) (pc' := 396) d13_392 j_392_4 ?_)
      exact law_396_ok v7 v10 v6 r382 t0 x0 x1 x2 x3 x5 (.val (.int v6)) x8 x9 hx0 hx1 hx2 hx3 hx5 (Or.inr ⟨_, rfl, rfl⟩) hx8 hx9 _ (by simpa only [if_neg h3] using hf)
  · replace hf := (if_neg h1).symm.trans hf
    refine go_icN (pc := 373) d13_373 (XT.ii_eq_f h1) ?_
    refine go_iconst (pc := 376) d13_376 ci_0 ?_
    cases hf
    exact go_zret (pc := 377) rfl d13_377 (show (0 : Int32) = nar .boolean (0 : Int32) by decide)
set_option maxRecDepth 65536 in
set_option maxHeartbeats 4000000 in
theorem law_352_ok  : ∀ (v5 : Int32) (v6 : Int32) (v7 : Int32) (v10 : Int32) (p0 : Int32) (p1 : Int32) (t0 : S) (x0 : Slot) (x1 : Slot) (x2 : Slot) (x3 : Slot) (x8 : Slot) (x9 : Slot) (hx0 : k1 x0) (hx1 : k1 x1) (hx2 : k1 x2) (hx3 : k1 x3) (hx8 : k1 x8) (hx9 : k1 x9) (o : Int32 × S), law_352 v5 v6 v7 v10 p0 p1 t0 = some o → Go PP m13 352 [x0, x1, x2, x3, .val (.ref 1), .val (.int v5), .val (.int v6), .val (.int v7), x8, x9, .val (.int v10)] [.int p0, .int p1] (none, [(22, t0)]) (some (.int o.1), (none, [(22, o.2)])) := by
  intro v5 v6 v7 v10 p0 p1 t0 x0 x1 x2 x3 x8 x9 hx0 hx1 hx2 hx3 hx8 hx9 o hf
  unfold law_352 at hf
  by_cases h1 : p1 = p0
  · replace hf := (if_pos h1).symm.trans hf
    refine go_icN (pc := 352) d13_352 (XT.ii_ne_f h1) ?_
    refine go_aload (pc := 355) d13_355 rfl (go_iconst (pc := 357) d13_357 ci_0 (go_iconst (pc := 358) d13_358 ci_1 ?_))
    obtain ⟨r359, e2, hf⟩ := Option.bind_eq_some_iff.mp hf
    refine go_virt (pc := 359) (i := 0) (as := [.int (0 : Int32), .int (1 : Int32)]) (rest := []) (w' := (none, [(22, t0)])) lk_1_36 pd_12 rfl oid_0 rfl rfl rfl rfl rfl rfl ⟨rfl, rfl, rfl, rfl, rfl⟩ d13_359 (c_k_getField (0 : Int32) (1 : Int32) t0 _ e2) ?_
    refine go_iload (pc := 362) d13_362 rfl ?_
    by_cases h3 : v10 = 0
    · refine go_ifY (pc := 364) (pc' := 372) d13_364 (XT.i0_eq_t h3) j_364_8 ?_
      refine go_iconst (pc := 372) d13_372 ci_0 ?_
      exact law_373_ok v6 v7 v10 (0 : Int32) r359 t0 x0 x1 x2 x3 (.val (.int v5)) x8 x9 hx0 hx1 hx2 hx3 (Or.inr ⟨_, rfl, rfl⟩) hx8 hx9 _ (by simpa only [if_pos h3] using hf)
    · refine go_ifN (pc := 364) d13_364 (XT.i0_eq_f h3) ?_
      refine go_iload (pc := 367) d13_367 rfl (go_goto (pc := 369) (pc' := 373) d13_369 j_369_4 ?_)
      exact law_373_ok v6 v7 v10 v5 r359 t0 x0 x1 x2 x3 (.val (.int v5)) x8 x9 hx0 hx1 hx2 hx3 (Or.inr ⟨_, rfl, rfl⟩) hx8 hx9 _ (by simpa only [if_neg h3] using hf)
  · replace hf := (if_neg h1).symm.trans hf
    refine go_icY (pc := 352) (pc' := 376) d13_352 (XT.ii_ne_t h1) j_352_24 ?_
    refine go_iconst (pc := 376) d13_376 ci_0 ?_
    cases hf
    exact go_zret (pc := 377) rfl d13_377 (show (0 : Int32) = nar .boolean (0 : Int32) by decide)
set_option maxRecDepth 65536 in
set_option maxHeartbeats 4000000 in
theorem law_320_ok  : ∀ (v0 : Int32) (v5 : Int32) (v6 : Int32) (v7 : Int32) (v10 : Int32) (p0 : Int32) (p1 : Int32) (t0 : S) (x1 : Slot) (x2 : Slot) (x3 : Slot) (x8 : Slot) (x9 : Slot) (hx1 : k1 x1) (hx2 : k1 x2) (hx3 : k1 x3) (hx8 : k1 x8) (hx9 : k1 x9) (o : Int32 × S), law_320 v0 v5 v6 v7 v10 p0 p1 t0 = some o → Go PP m13 320 [.val (.int v0), x1, x2, x3, .val (.ref 1), .val (.int v5), .val (.int v6), .val (.int v7), x8, x9, .val (.int v10)] [.int p0, .int p1] (none, [(22, t0)]) (some (.int o.1), (none, [(22, o.2)])) := by
  intro v0 v5 v6 v7 v10 p0 p1 t0 x1 x2 x3 x8 x9 hx1 hx2 hx3 hx8 hx9 o hf
  unfold law_320 at hf
  by_cases h1 : p1 = p0
  · replace hf := (if_pos h1).symm.trans hf
    refine go_icN (pc := 320) d13_320 (XT.ii_ne_f h1) ?_
    refine go_aload (pc := 323) d13_323 rfl ?_
    refine go_virt (pc := 325) (i := 0) (as := []) (rest := []) (w' := (none, [(22, t0)])) lk_1_16 pd_2 rfl oid_0 rfl rfl rfl rfl rfl rfl ⟨rfl, rfl, rfl, rfl, rfl⟩ d13_325 (c_k_isCompiled t0) ?_
    refine go_iload (pc := 328) d13_328 rfl ?_
    by_cases h2 : (k_isCompiled t0) = v10
    · replace hf := (if_pos h2).symm.trans hf
      refine go_icN (pc := 330) d13_330 (XT.ii_ne_f h2) ?_
      refine go_iconst (pc := 333) d13_333 ci_0 ?_
      cases hf
      exact go_zret (pc := 334) rfl d13_334 (show (0 : Int32) = nar .boolean (0 : Int32) by decide)
    · replace hf := (if_neg h2).symm.trans hf
      refine go_icY (pc := 330) (pc' := 335) d13_330 (XT.ii_ne_t h2) j_330_5 ?_
      refine go_aload (pc := 335) d13_335 rfl (go_iconst (pc := 337) d13_337 ci_0 (go_iconst (pc := 338) d13_338 ci_0 ?_))
      obtain ⟨r339, e3, hf⟩ := Option.bind_eq_some_iff.mp hf
      refine go_virt (pc := 339) (i := 0) (as := [.int (0 : Int32), .int (0 : Int32)]) (rest := []) (w' := (none, [(22, t0)])) lk_1_36 pd_12 rfl oid_0 rfl rfl rfl rfl rfl rfl ⟨rfl, rfl, rfl, rfl, rfl⟩ d13_339 (c_k_getField (0 : Int32) (0 : Int32) t0 _ e3) ?_
      refine go_iload (pc := 342) d13_342 rfl ?_
      by_cases h4 : v10 = 0
      · refine go_ifY (pc := 344) (pc' := 351) d13_344 (XT.i0_eq_t h4) j_344_7 ?_
        refine go_iconst (pc := 351) d13_351 ci_0 ?_
        exact law_352_ok v5 v6 v7 v10 (0 : Int32) r339 t0 (.val (.int v0)) x1 x2 x3 x8 x9 (Or.inr ⟨_, rfl, rfl⟩) hx1 hx2 hx3 hx8 hx9 _ (by simpa only [if_pos h4] using hf)
      · refine go_ifN (pc := 344) d13_344 (XT.i0_eq_f h4) ?_
        refine go_iloadN (pc := 347) d13_347 rfl (go_goto (pc := 348) (pc' := 352) d13_348 j_348_4 ?_)
        exact law_352_ok v5 v6 v7 v10 v0 r339 t0 (.val (.int v0)) x1 x2 x3 x8 x9 (Or.inr ⟨_, rfl, rfl⟩) hx1 hx2 hx3 hx8 hx9 _ (by simpa only [if_neg h4] using hf)
  · replace hf := (if_neg h1).symm.trans hf
    refine go_icY (pc := 320) (pc' := 333) d13_320 (XT.ii_ne_t h1) j_320_13 ?_
    refine go_iconst (pc := 333) d13_333 ci_0 ?_
    cases hf
    exact go_zret (pc := 334) rfl d13_334 (show (0 : Int32) = nar .boolean (0 : Int32) by decide)
set_option maxRecDepth 65536 in
set_option maxHeartbeats 4000000 in
theorem law_287_ok  : ∀ (v0 : Int32) (v1 : Int32) (v2 : Int32) (v3 : Int32) (v5 : Int32) (v6 : Int32) (v7 : Int32) (v9 : Int32) (p0 : Int32) (t0 : S) (x8 : Slot) (hx8 : k1 x8) (o : Int32 × S), law_287 v0 v1 v2 v3 v5 v6 v7 v9 p0 t0 = some o → Go PP m13 287 [.val (.int v0), .val (.int v1), .val (.int v2), .val (.int v3), .val (.ref 1), .val (.int v5), .val (.int v6), .val (.int v7), x8, .val (.int v9), .unset] [.int p0] (none, [(22, t0)]) (some (.int o.1), (none, [(22, o.2)])) := by
  intro v0 v1 v2 v3 v5 v6 v7 v9 p0 t0 x8 hx8 o hf
  unfold law_287 at hf
  refine go_istore (pc := 287) (L' := [.val (.int v0), .val (.int v1), .val (.int v2), .val (.int v3), .val (.ref 1), .val (.int v5), .val (.int v6), .val (.int v7), x8, .val (.int v9), .val (.int p0)]) d13_287 rfl (go_aload (pc := 289) d13_289 rfl (go_iloadN (pc := 291) d13_291 rfl (go_iloadN (pc := 292) d13_292 rfl (go_iloadN (pc := 293) d13_293 rfl (go_iloadN (pc := 294) d13_294 rfl ?_)))))
  obtain ⟨r295, e1, hf⟩ := Option.bind_eq_some_iff.mp hf
  refine go_virt (pc := 295) (i := 0) (as := [.int v0, .int v1, .int v2, .int v3]) (rest := []) (w' := (none, [(22, r295.2)])) lk_1_29 pd_10 rfl oid_0 rfl rfl rfl rfl rfl rfl ⟨rfl, rfl, rfl, rfl, rfl⟩ d13_295 (c_k_add v0 v1 v2 v3 t0 _ e1) ?_
  refine go_iload (pc := 298) d13_298 rfl ?_
  by_cases h2 : r295.1 = v9
  · replace hf := (if_pos h2).symm.trans hf
    refine go_icY (pc := 300) (pc' := 305) d13_300 (XT.ii_eq_t h2) j_300_5 ?_
    refine go_aload (pc := 305) d13_305 rfl ?_
    refine go_virt (pc := 307) (i := 0) (as := []) (rest := []) (w' := (none, [(22, r295.2)])) lk_1_33 pd_11 rfl oid_0 rfl rfl rfl rfl rfl rfl ⟨rfl, rfl, rfl, rfl, rfl⟩ d13_307 (c_k_length r295.2) ?_
    refine go_iload (pc := 310) d13_310 rfl ?_
    by_cases h3 : p0 = 0
    · refine go_ifY (pc := 312) (pc' := 319) d13_312 (XT.i0_eq_t h3) j_312_7 ?_
      refine go_iconst (pc := 319) d13_319 ci_0 ?_
      exact law_320_ok v0 v5 v6 v7 p0 (0 : Int32) (k_length r295.2) r295.2 (.val (.int v1)) (.val (.int v2)) (.val (.int v3)) x8 (.val (.int v9)) (Or.inr ⟨_, rfl, rfl⟩) (Or.inr ⟨_, rfl, rfl⟩) (Or.inr ⟨_, rfl, rfl⟩) hx8 (Or.inr ⟨_, rfl, rfl⟩) _ (by simpa only [if_pos h3] using hf)
    · refine go_ifN (pc := 312) d13_312 (XT.i0_eq_f h3) ?_
      refine go_iconst (pc := 315) d13_315 ci_1 (go_goto (pc := 316) (pc' := 320) d13_316 j_316_4 ?_)
      exact law_320_ok v0 v5 v6 v7 p0 (1 : Int32) (k_length r295.2) r295.2 (.val (.int v1)) (.val (.int v2)) (.val (.int v3)) x8 (.val (.int v9)) (Or.inr ⟨_, rfl, rfl⟩) (Or.inr ⟨_, rfl, rfl⟩) (Or.inr ⟨_, rfl, rfl⟩) hx8 (Or.inr ⟨_, rfl, rfl⟩) _ (by simpa only [if_neg h3] using hf)
  · replace hf := (if_neg h2).symm.trans hf
    refine go_icN (pc := 300) d13_300 (XT.ii_eq_f h2) ?_
    refine go_iconst (pc := 303) d13_303 ci_0 ?_
    cases hf
    exact go_zret (pc := 304) rfl d13_304 (show (0 : Int32) = nar .boolean (0 : Int32) by decide)
set_option maxRecDepth 65536 in
set_option maxHeartbeats 4000000 in
theorem law_275_ok  : ∀ (v0 : Int32) (v1 : Int32) (v2 : Int32) (v3 : Int32) (v5 : Int32) (v6 : Int32) (v7 : Int32) (p0 : Int32) (t0 : S) (x8 : Slot) (hx8 : k1 x8) (o : Int32 × S), law_275 v0 v1 v2 v3 v5 v6 v7 p0 t0 = some o → Go PP m13 275 [.val (.int v0), .val (.int v1), .val (.int v2), .val (.int v3), .val (.ref 1), .val (.int v5), .val (.int v6), .val (.int v7), x8, .unset, .unset] [.int p0] (none, [(22, t0)]) (some (.int o.1), (none, [(22, o.2)])) := by
  intro v0 v1 v2 v3 v5 v6 v7 p0 t0 x8 hx8 o hf
  unfold law_275 at hf
  refine go_istore (pc := 275) (L' := [.val (.int v0), .val (.int v1), .val (.int v2), .val (.int v3), .val (.ref 1), .val (.int v5), .val (.int v6), .val (.int v7), x8, .val (.int p0), .unset]) d13_275 rfl (go_iload (pc := 277) d13_277 rfl ?_)
  by_cases h1 : p0 = 0
  · refine go_ifN (pc := 279) d13_279 (XT.i0_ne_f h1) ?_
    refine go_iconst (pc := 282) d13_282 ci_1 (go_goto (pc := 283) (pc' := 287) d13_283 j_283_4 ?_)
    exact law_287_ok v0 v1 v2 v3 v5 v6 v7 p0 (1 : Int32) t0 x8 hx8 _ (by simpa only [if_pos h1] using hf)
  · refine go_ifY (pc := 279) (pc' := 286) d13_279 (XT.i0_ne_t h1) j_279_7 ?_
    refine go_iconst (pc := 286) d13_286 ci_0 ?_
    exact law_287_ok v0 v1 v2 v3 v5 v6 v7 p0 (0 : Int32) t0 x8 hx8 _ (by simpa only [if_neg h1] using hf)
set_option maxRecDepth 65536 in
set_option maxHeartbeats 4000000 in
theorem law_248_ok  : ∀ (v0 : Int32) (v1 : Int32) (v2 : Int32) (v3 : Int32) (v5 : Int32) (v6 : Int32) (v7 : Int32) (v8 : Int32) (t0 : S)  (o : Int32 × S), law_248 v0 v1 v2 v3 v5 v6 v7 v8 t0 = some o → Go PP m13 248 [.val (.int v0), .val (.int v1), .val (.int v2), .val (.int v3), .val (.ref 1), .val (.int v5), .val (.int v6), .val (.int v7), .val (.int v8), .unset, .unset] [] (none, [(22, t0)]) (some (.int o.1), (none, [(22, o.2)])) := by
  intro v0 v1 v2 v3 v5 v6 v7 v8 t0 o hf
  unfold law_248 at hf
  refine go_iloadN (pc := 248) d13_248 rfl (go_iconst (pc := 249) d13_249 ci_1 ?_)
  by_cases h1 : v0 < (1 : Int32)
  · refine go_icY (pc := 250) (pc' := 259) d13_250 (XT.ii_lt_t h1) j_250_9 ?_
    refine go_bipush (pc := 259) d13_259 cb_m2 (go_goto (pc := 261) (pc' := 275) d13_261 j_261_14 ?_)
    exact law_275_ok v0 v1 v2 v3 v5 v6 v7 (-2 : Int32) t0 (.val (.int v8)) (Or.inr ⟨_, rfl, rfl⟩) _ (by simpa only [if_pos h1] using hf)
  · refine go_icN (pc := 250) d13_250 (XT.ii_lt_f h1) ?_
    refine go_iloadN (pc := 253) d13_253 rfl (go_bipush (pc := 254) d13_254 cb_12 ?_)
    by_cases h2 : (12 : Int32) < v0
    · refine go_icN (pc := 256) d13_256 (XT.ii_le_f h2) ?_
      refine go_bipush (pc := 259) d13_259 cb_m2 (go_goto (pc := 261) (pc' := 275) d13_261 j_261_14 ?_)
      exact law_275_ok v0 v1 v2 v3 v5 v6 v7 (-2 : Int32) t0 (.val (.int v8)) (Or.inr ⟨_, rfl, rfl⟩) _ (by simpa only [if_neg h1, if_pos h2] using hf)
    · refine go_icY (pc := 256) (pc' := 264) d13_256 (XT.ii_le_t h2) j_256_8 ?_
      refine go_iload (pc := 264) d13_264 rfl ?_
      by_cases h3 : v8 = 0
      · refine go_ifY (pc := 266) (pc' := 273) d13_266 (XT.i0_eq_t h3) j_266_7 ?_
        refine go_bipush (pc := 273) d13_273 cb_m3 ?_
        exact law_275_ok v0 v1 v2 v3 v5 v6 v7 (-3 : Int32) t0 (.val (.int v8)) (Or.inr ⟨_, rfl, rfl⟩) _ (by simpa only [if_neg h1, if_neg h2, if_pos h3] using hf)
      · refine go_ifN (pc := 266) d13_266 (XT.i0_eq_f h3) ?_
        refine go_iconst (pc := 269) d13_269 ci_0 (go_goto (pc := 270) (pc' := 275) d13_270 j_270_5 ?_)
        exact law_275_ok v0 v1 v2 v3 v5 v6 v7 (0 : Int32) t0 (.val (.int v8)) (Or.inr ⟨_, rfl, rfl⟩) _ (by simpa only [if_neg h1, if_neg h2, if_neg h3] using hf)
set_option maxRecDepth 65536 in
set_option maxHeartbeats 4000000 in
theorem law_117_ok  : ∀ (v0 : Int32) (v1 : Int32) (v2 : Int32) (v3 : Int32) (p0 : Int32) (t0 : S) (x5 : Slot) (x6 : Slot) (x7 : Slot) (hx5 : k1 x5) (hx6 : k1 x6) (hx7 : k1 x7) (o : Int32 × S), law_117 v0 v1 v2 v3 p0 t0 = some o → Go PP m13 117 [.val (.int v0), .val (.int v1), .val (.int v2), .val (.int v3), .val (.ref 1), x5, x6, x7, .unset, .unset, .unset] [.int p0] (none, [(22, t0)]) (some (.int o.1), (none, [(22, o.2)])) := by
  intro v0 v1 v2 v3 p0 t0 x5 x6 x7 hx5 hx6 hx7 o hf
  unfold law_117 at hf
  refine go_istore (pc := 117) (L' := [.val (.int v0), .val (.int v1), .val (.int v2), .val (.int v3), .val (.ref 1), x5, x6, x7, .val (.int p0), .unset, .unset]) d13_117 rfl (go_iloadN (pc := 119) d13_119 rfl (go_istore (pc := 120) (L' := [.val (.int v0), .val (.int v1), .val (.int v2), .val (.int v3), .val (.ref 1), .val (.int v1), x6, x7, .val (.int p0), .unset, .unset]) d13_120 (stx rfl hx5 rfl) (go_iloadN (pc := 122) d13_122 rfl (go_istore (pc := 123) (L' := [.val (.int v0), .val (.int v1), .val (.int v2), .val (.int v3), .val (.ref 1), .val (.int v1), .val (.int v2), x7, .val (.int p0), .unset, .unset]) d13_123 (stx rfl hx6 rfl) (go_iloadN (pc := 125) d13_125 rfl (go_istore (pc := 126) (L' := [.val (.int v0), .val (.int v1), .val (.int v2), .val (.int v3), .val (.ref 1), .val (.int v1), .val (.int v2), .val (.int v3), .val (.int p0), .unset, .unset]) d13_126 (stx rfl hx7 rfl) (go_goto (pc := 128) (pc' := 248) d13_128 j_128_120 ?_)))))))
  exact law_248_ok v0 v1 v2 v3 v1 v2 v3 p0 t0 _ hf
set_option maxRecDepth 65536 in
set_option maxHeartbeats 4000000 in
theorem law_82_ok  : ∀ (v0 : Int32) (v1 : Int32) (v2 : Int32) (v3 : Int32) (v7 : Int32) (p0 : Int32) (t0 : S) (x5 : Slot) (x6 : Slot) (hx5 : k1 x5) (hx6 : k1 x6) (o : Int32 × S), law_82 v0 v1 v2 v3 v7 p0 t0 = some o → Go PP m13 82 [.val (.int v0), .val (.int v1), .val (.int v2), .val (.int v3), .val (.ref 1), x5, x6, .val (.int v7), .unset, .unset, .unset] [.int p0] (none, [(22, t0)]) (some (.int o.1), (none, [(22, o.2)])) := by
  intro v0 v1 v2 v3 v7 p0 t0 x5 x6 hx5 hx6 o hf
  unfold law_82 at hf
  refine go_istore (pc := 82) (L' := [.val (.int v0), .val (.int v1), .val (.int v2), .val (.int v3), .val (.ref 1), x5, x6, .val (.int v7), .val (.int p0), .unset, .unset]) d13_82 rfl (go_iloadN (pc := 84) d13_84 rfl (go_istore (pc := 85) (L' := [.val (.int v0), .val (.int v1), .val (.int v2), .val (.int v3), .val (.ref 1), .val (.int v1), x6, .val (.int v7), .val (.int p0), .unset, .unset]) d13_85 (stx rfl hx5 rfl) (go_iloadN (pc := 87) d13_87 rfl (go_istore (pc := 88) (L' := [.val (.int v0), .val (.int v1), .val (.int v2), .val (.int v3), .val (.ref 1), .val (.int v1), .val (.int v2), .val (.int v7), .val (.int p0), .unset, .unset]) d13_88 (stx rfl hx6 rfl) (go_goto (pc := 90) (pc' := 248) d13_90 j_90_158 ?_)))))
  exact law_248_ok v0 v1 v2 v3 v1 v2 v7 p0 t0 _ hf
set_option maxRecDepth 65536 in
set_option maxHeartbeats 4000000 in
theorem law_ok  : ∀ (v0 : Int32) (v1 : Int32) (v2 : Int32) (v3 : Int32)   (o : Int32 × S), law v0 v1 v2 v3 = some o → Go PP m13 0 [.val (.int v0), .val (.int v1), .val (.int v2), .val (.int v3), .unset, .unset, .unset, .unset, .unset, .unset, .unset] [] (none, []) (some (.int o.1), (none, [(22, o.2)])) := by
  intro v0 v1 v2 v3 o hf
  unfold law at hf
  refine go_new (pc := 0) (n := 0) (w' := (none, [(0, s0)])) (List.mem_of_getElem? (i := 0) rfl) rfl rfl rfl rfl rfl rfl rfl d13_0 oid_0 ?_
  refine go_dupR (pc := 3) d13_3 (go_bipush (pc := 4) d13_4 cb_16 ?_)
  obtain ⟨r6, e2, hf⟩ := Option.bind_eq_some_iff.mp hf
  refine go_init (pc := 6) (i := 0) (as := [.int (16 : Int32)]) (rest := [.ref 1]) (w' := (none, [(22, r6)])) lk_1_9 pd_0 rfl oid_0 rfl rfl rfl rfl rfl rfl rfl rfl rfl ⟨rfl, rfl, rfl⟩ ⟨rfl, rfl⟩ d13_6 (c_k_init (16 : Int32) _ e2) ?_
  refine go_astore (pc := 9) (L' := [.val (.int v0), .val (.int v1), .val (.int v2), .val (.int v3), .val (.ref 1), .unset, .unset, .unset, .unset, .unset, .unset]) d13_9 rfl (go_aload (pc := 11) d13_11 rfl ?_)
  obtain ⟨r13, e3, hf⟩ := Option.bind_eq_some_iff.mp hf
  refine go_virt (pc := 13) (i := 0) (as := []) (rest := []) (w' := (none, [(22, r13.2)])) lk_1_12 pd_1 rfl oid_0 rfl rfl rfl rfl rfl rfl ⟨rfl, rfl, rfl, rfl, rfl⟩ d13_13 (c_k_compile r6 _ e3) ?_
  by_cases h4 : r13.1 = 0
  · replace hf := (if_pos h4).symm.trans hf
    refine go_ifN (pc := 16) d13_16 (XT.i0_ne_f h4) ?_
    refine go_aload (pc := 19) d13_19 rfl ?_
    refine go_virt (pc := 21) (i := 0) (as := []) (rest := []) (w' := (none, [(22, r13.2)])) lk_1_16 pd_2 rfl oid_0 rfl rfl rfl rfl rfl rfl ⟨rfl, rfl, rfl, rfl, rfl⟩ d13_21 (c_k_isCompiled r13.2) ?_
    by_cases h5 : (k_isCompiled r13.2) = 0
    · replace hf := (if_pos h5).symm.trans hf
      refine go_ifN (pc := 24) d13_24 (XT.i0_ne_f h5) ?_
      refine go_iconst (pc := 27) d13_27 ci_0 ?_
      cases hf
      exact go_zret (pc := 28) rfl d13_28 (show (0 : Int32) = nar .boolean (0 : Int32) by decide)
    · replace hf := (if_neg h5).symm.trans hf
      refine go_ifY (pc := 24) (pc' := 29) d13_24 (XT.i0_ne_t h5) j_24_5 ?_
      refine go_iconst (pc := 29) d13_29 ci_0 (go_istore (pc := 30) (L' := [.val (.int v0), .val (.int v1), .val (.int v2), .val (.int v3), .val (.ref 1), .val (.int (0 : Int32)), .unset, .unset, .unset, .unset, .unset]) d13_30 rfl (go_iconst (pc := 32) d13_32 ci_0 (go_istore (pc := 33) (L' := [.val (.int v0), .val (.int v1), .val (.int v2), .val (.int v3), .val (.ref 1), .val (.int (0 : Int32)), .val (.int (0 : Int32)), .unset, .unset, .unset, .unset]) d13_33 rfl (go_iconst (pc := 35) d13_35 ci_0 (go_istore (pc := 36) (L' := [.val (.int v0), .val (.int v1), .val (.int v2), .val (.int v3), .val (.ref 1), .val (.int (0 : Int32)), .val (.int (0 : Int32)), .val (.int (0 : Int32)), .unset, .unset, .unset]) d13_36 rfl (go_iloadN (pc := 38) d13_38 rfl (go_iconst (pc := 39) d13_39 ci_1 ?_)))))))
      by_cases h6 : v0 = (1 : Int32)
      · replace hf := (if_pos h6).symm.trans hf
        refine go_icN (pc := 40) d13_40 (XT.ii_ne_f h6) ?_
        refine go_iloadN (pc := 43) d13_43 rfl ?_
        refine go_stat (pc := 44) (as := [.int v1]) (rest := []) (w' := (none, [(22, r13.2)])) lk_1_20 pd_3 rfl rfl ⟨Nat.le_of_ble_eq_true rfl, Nat.le_of_ble_eq_true rfl⟩ ⟨rfl, rfl, rfl⟩ ⟨rfl, rfl, rfl, rfl, rfl⟩ d13_44 (c_h_reg_n1 v1 r13.2) ?_
        refine go_istore (pc := 47) (L' := [.val (.int v0), .val (.int v1), .val (.int v2), .val (.int v3), .val (.ref 1), .val (.int (0 : Int32)), .val (.int (0 : Int32)), .val (.int (0 : Int32)), .val (.int (h_reg v1)), .unset, .unset]) d13_47 rfl (go_iloadN (pc := 49) d13_49 rfl (go_istore (pc := 50) (L' := [.val (.int v0), .val (.int v1), .val (.int v2), .val (.int v3), .val (.ref 1), .val (.int v1), .val (.int (0 : Int32)), .val (.int (0 : Int32)), .val (.int (h_reg v1)), .unset, .unset]) d13_50 rfl (go_iloadN (pc := 52) d13_52 rfl (go_istore (pc := 53) (L' := [.val (.int v0), .val (.int v1), .val (.int v2), .val (.int v3), .val (.ref 1), .val (.int v1), .val (.int v2), .val (.int (0 : Int32)), .val (.int (h_reg v1)), .unset, .unset]) d13_53 rfl (go_goto (pc := 55) (pc' := 248) d13_55 j_55_193 ?_)))))
        exact law_248_ok v0 v1 v2 v3 v1 v2 (0 : Int32) (h_reg v1) r13.2 _ hf
      · replace hf := (if_neg h6).symm.trans hf
        refine go_icY (pc := 40) (pc' := 58) d13_40 (XT.ii_ne_t h6) j_40_18 ?_
        refine go_iloadN (pc := 58) d13_58 rfl (go_iconst (pc := 59) d13_59 ci_2 ?_)
        by_cases h7 : v0 = (2 : Int32)
        · replace hf := (if_pos h7).symm.trans hf
          refine go_icN (pc := 60) d13_60 (XT.ii_ne_f h7) ?_
          refine go_iloadN (pc := 63) d13_63 rfl ?_
          refine go_stat (pc := 64) (as := [.int v1]) (rest := []) (w' := (none, [(22, r13.2)])) lk_1_20 pd_3 rfl rfl ⟨Nat.le_of_ble_eq_true rfl, Nat.le_of_ble_eq_true rfl⟩ ⟨rfl, rfl, rfl⟩ ⟨rfl, rfl, rfl, rfl, rfl⟩ d13_64 (c_h_reg_n1 v1 r13.2) ?_
          by_cases h21 : (h_reg v1) = 0
          · refine go_ifY (pc := 67) (pc' := 81) d13_67 (XT.i0_eq_t h21) j_67_14 ?_
            refine go_iconst (pc := 81) d13_81 ci_0 ?_
            exact law_82_ok v0 v1 v2 v3 (0 : Int32) (0 : Int32) r13.2 (.val (.int (0 : Int32))) (.val (.int (0 : Int32))) (Or.inr ⟨_, rfl, rfl⟩) (Or.inr ⟨_, rfl, rfl⟩) _ (by simpa only [if_pos h21] using hf)
          · refine go_ifN (pc := 67) d13_67 (XT.i0_eq_f h21) ?_
            refine go_iloadN (pc := 70) d13_70 rfl (go_stat (pc := 71) (as := [.int v2]) (rest := []) (w' := (none, [(22, r13.2)])) lk_1_20 pd_3 rfl rfl ⟨Nat.le_of_ble_eq_true rfl, Nat.le_of_ble_eq_true rfl⟩ ⟨rfl, rfl, rfl⟩ ⟨rfl, rfl, rfl, rfl, rfl⟩ d13_71 (c_h_reg_n1 v2 r13.2) ?_)
            by_cases h22 : (h_reg v2) = 0
            · refine go_ifY (pc := 74) (pc' := 81) d13_74 (XT.i0_eq_t h22) j_74_7 ?_
              refine go_iconst (pc := 81) d13_81 ci_0 ?_
              exact law_82_ok v0 v1 v2 v3 (0 : Int32) (0 : Int32) r13.2 (.val (.int (0 : Int32))) (.val (.int (0 : Int32))) (Or.inr ⟨_, rfl, rfl⟩) (Or.inr ⟨_, rfl, rfl⟩) _ (by simpa only [if_neg h21, if_pos h22] using hf)
            · refine go_ifN (pc := 74) d13_74 (XT.i0_eq_f h22) ?_
              refine go_iconst (pc := 77) d13_77 ci_1 (go_goto (pc := 78) (pc' := 82) d13_78 j_78_4 ?_)
              exact law_82_ok v0 v1 v2 v3 (0 : Int32) (1 : Int32) r13.2 (.val (.int (0 : Int32))) (.val (.int (0 : Int32))) (Or.inr ⟨_, rfl, rfl⟩) (Or.inr ⟨_, rfl, rfl⟩) _ (by simpa only [if_neg h21, if_neg h22] using hf)
        · replace hf := (if_neg h7).symm.trans hf
          refine go_icY (pc := 60) (pc' := 93) d13_60 (XT.ii_ne_t h7) j_60_33 ?_
          refine go_iloadN (pc := 93) d13_93 rfl (go_iconst (pc := 94) d13_94 ci_3 ?_)
          by_cases h8 : v0 = (3 : Int32)
          · replace hf := (if_pos h8).symm.trans hf
            refine go_icN (pc := 95) d13_95 (XT.ii_ne_f h8) ?_
            refine go_iloadN (pc := 98) d13_98 rfl ?_
            refine go_stat (pc := 99) (as := [.int v1]) (rest := []) (w' := (none, [(22, r13.2)])) lk_1_20 pd_3 rfl rfl ⟨Nat.le_of_ble_eq_true rfl, Nat.le_of_ble_eq_true rfl⟩ ⟨rfl, rfl, rfl⟩ ⟨rfl, rfl, rfl, rfl, rfl⟩ d13_99 (c_h_reg_n1 v1 r13.2) ?_
            by_cases h19 : (h_reg v1) = 0
            · refine go_ifY (pc := 102) (pc' := 116) d13_102 (XT.i0_eq_t h19) j_102_14 ?_
              refine go_iconst (pc := 116) d13_116 ci_0 ?_
              exact law_117_ok v0 v1 v2 v3 (0 : Int32) r13.2 (.val (.int (0 : Int32))) (.val (.int (0 : Int32))) (.val (.int (0 : Int32))) (Or.inr ⟨_, rfl, rfl⟩) (Or.inr ⟨_, rfl, rfl⟩) (Or.inr ⟨_, rfl, rfl⟩) _ (by simpa only [if_pos h19] using hf)
            · refine go_ifN (pc := 102) d13_102 (XT.i0_eq_f h19) ?_
              refine go_iloadN (pc := 105) d13_105 rfl (go_stat (pc := 106) (as := [.int v2]) (rest := []) (w' := (none, [(22, r13.2)])) lk_1_20 pd_3 rfl rfl ⟨Nat.le_of_ble_eq_true rfl, Nat.le_of_ble_eq_true rfl⟩ ⟨rfl, rfl, rfl⟩ ⟨rfl, rfl, rfl, rfl, rfl⟩ d13_106 (c_h_reg_n1 v2 r13.2) ?_)
              by_cases h20 : (h_reg v2) = 0
              · refine go_ifY (pc := 109) (pc' := 116) d13_109 (XT.i0_eq_t h20) j_109_7 ?_
                refine go_iconst (pc := 116) d13_116 ci_0 ?_
                exact law_117_ok v0 v1 v2 v3 (0 : Int32) r13.2 (.val (.int (0 : Int32))) (.val (.int (0 : Int32))) (.val (.int (0 : Int32))) (Or.inr ⟨_, rfl, rfl⟩) (Or.inr ⟨_, rfl, rfl⟩) (Or.inr ⟨_, rfl, rfl⟩) _ (by simpa only [if_neg h19, if_pos h20] using hf)
              · refine go_ifN (pc := 109) d13_109 (XT.i0_eq_f h20) ?_
                refine go_iconst (pc := 112) d13_112 ci_1 (go_goto (pc := 113) (pc' := 117) d13_113 j_113_4 ?_)
                exact law_117_ok v0 v1 v2 v3 (1 : Int32) r13.2 (.val (.int (0 : Int32))) (.val (.int (0 : Int32))) (.val (.int (0 : Int32))) (Or.inr ⟨_, rfl, rfl⟩) (Or.inr ⟨_, rfl, rfl⟩) (Or.inr ⟨_, rfl, rfl⟩) _ (by simpa only [if_neg h19, if_neg h20] using hf)
          · replace hf := (if_neg h8).symm.trans hf
            refine go_icY (pc := 95) (pc' := 131) d13_95 (XT.ii_ne_t h8) j_95_36 ?_
            refine go_iloadN (pc := 131) d13_131 rfl (go_iconst (pc := 132) d13_132 ci_4 ?_)
            by_cases h9 : v0 = (4 : Int32)
            · refine go_icN (pc := 133) d13_133 (XT.ii_ne_f h9) ?_
              refine go_iloadN (pc := 136) d13_136 rfl (go_stat (pc := 137) (as := [.int v1]) (rest := []) (w' := (none, [(22, r13.2)])) lk_1_20 pd_3 rfl rfl ⟨Nat.le_of_ble_eq_true rfl, Nat.le_of_ble_eq_true rfl⟩ ⟨rfl, rfl, rfl⟩ ⟨rfl, rfl, rfl, rfl, rfl⟩ d13_137 (c_h_reg_n1 v1 r13.2) ?_)
              by_cases h16 : (h_reg v1) = 0
              · refine go_ifY (pc := 140) (pc' := 161) d13_140 (XT.i0_eq_t h16) j_140_21 ?_
                refine go_iconst (pc := 161) d13_161 ci_0 (go_istore (pc := 162) (L' := [.val (.int v0), .val (.int v1), .val (.int v2), .val (.int v3), .val (.ref 1), .val (.int (0 : Int32)), .val (.int (0 : Int32)), .val (.int (0 : Int32)), .val (.int (0 : Int32)), .unset, .unset]) d13_162 rfl (go_iloadN (pc := 164) d13_164 rfl (go_istore (pc := 165) (L' := [.val (.int v0), .val (.int v1), .val (.int v2), .val (.int v3), .val (.ref 1), .val (.int v1), .val (.int (0 : Int32)), .val (.int (0 : Int32)), .val (.int (0 : Int32)), .unset, .unset]) d13_165 rfl (go_iloadN (pc := 167) d13_167 rfl (go_istore (pc := 168) (L' := [.val (.int v0), .val (.int v1), .val (.int v2), .val (.int v3), .val (.ref 1), .val (.int v1), .val (.int v2), .val (.int (0 : Int32)), .val (.int (0 : Int32)), .unset, .unset]) d13_168 rfl (go_iloadN (pc := 170) d13_170 rfl (go_istore (pc := 171) (L' := [.val (.int v0), .val (.int v1), .val (.int v2), .val (.int v3), .val (.ref 1), .val (.int v1), .val (.int v2), .val (.int v3), .val (.int (0 : Int32)), .unset, .unset]) d13_171 rfl ?_)))))))
                refine go_goto (pc := 173) (pc' := 248) d13_173 j_173_75 ?_
                exact law_248_ok v0 v1 v2 v3 v1 v2 v3 (0 : Int32) r13.2 _ (by simpa only [if_pos h9, if_pos h16] using hf)
              · refine go_ifN (pc := 140) d13_140 (XT.i0_eq_f h16) ?_
                refine go_iloadN (pc := 143) d13_143 rfl (go_stat (pc := 144) (as := [.int v2]) (rest := []) (w' := (none, [(22, r13.2)])) lk_1_20 pd_3 rfl rfl ⟨Nat.le_of_ble_eq_true rfl, Nat.le_of_ble_eq_true rfl⟩ ⟨rfl, rfl, rfl⟩ ⟨rfl, rfl, rfl, rfl, rfl⟩ d13_144 (c_h_reg_n1 v2 r13.2) ?_)
                by_cases h17 : (h_reg v2) = 0
                · refine go_ifY (pc := 147) (pc' := 161) d13_147 (XT.i0_eq_t h17) j_147_14 ?_
                  refine go_iconst (pc := 161) d13_161 ci_0 (go_istore (pc := 162) (L' := [.val (.int v0), .val (.int v1), .val (.int v2), .val (.int v3), .val (.ref 1), .val (.int (0 : Int32)), .val (.int (0 : Int32)), .val (.int (0 : Int32)), .val (.int (0 : Int32)), .unset, .unset]) d13_162 rfl (go_iloadN (pc := 164) d13_164 rfl (go_istore (pc := 165) (L' := [.val (.int v0), .val (.int v1), .val (.int v2), .val (.int v3), .val (.ref 1), .val (.int v1), .val (.int (0 : Int32)), .val (.int (0 : Int32)), .val (.int (0 : Int32)), .unset, .unset]) d13_165 rfl (go_iloadN (pc := 167) d13_167 rfl (go_istore (pc := 168) (L' := [.val (.int v0), .val (.int v1), .val (.int v2), .val (.int v3), .val (.ref 1), .val (.int v1), .val (.int v2), .val (.int (0 : Int32)), .val (.int (0 : Int32)), .unset, .unset]) d13_168 rfl (go_iloadN (pc := 170) d13_170 rfl (go_istore (pc := 171) (L' := [.val (.int v0), .val (.int v1), .val (.int v2), .val (.int v3), .val (.ref 1), .val (.int v1), .val (.int v2), .val (.int v3), .val (.int (0 : Int32)), .unset, .unset]) d13_171 rfl ?_)))))))
                  refine go_goto (pc := 173) (pc' := 248) d13_173 j_173_75 ?_
                  exact law_248_ok v0 v1 v2 v3 v1 v2 v3 (0 : Int32) r13.2 _ (by simpa only [if_pos h9, if_neg h16, if_pos h17] using hf)
                · refine go_ifN (pc := 147) d13_147 (XT.i0_eq_f h17) ?_
                  refine go_iloadN (pc := 150) d13_150 rfl (go_stat (pc := 151) (as := [.int v3]) (rest := []) (w' := (none, [(22, r13.2)])) lk_1_26 pd_4 rfl rfl ⟨Nat.le_of_ble_eq_true rfl, Nat.le_of_ble_eq_true rfl⟩ ⟨rfl, rfl, rfl⟩ ⟨rfl, rfl, rfl, rfl, rfl⟩ d13_151 (c_h_off_n1 v3 r13.2) ?_)
                  by_cases h18 : (h_off v3) = 0
                  · refine go_ifY (pc := 154) (pc' := 161) d13_154 (XT.i0_eq_t h18) j_154_7 ?_
                    refine go_iconst (pc := 161) d13_161 ci_0 (go_istore (pc := 162) (L' := [.val (.int v0), .val (.int v1), .val (.int v2), .val (.int v3), .val (.ref 1), .val (.int (0 : Int32)), .val (.int (0 : Int32)), .val (.int (0 : Int32)), .val (.int (0 : Int32)), .unset, .unset]) d13_162 rfl (go_iloadN (pc := 164) d13_164 rfl (go_istore (pc := 165) (L' := [.val (.int v0), .val (.int v1), .val (.int v2), .val (.int v3), .val (.ref 1), .val (.int v1), .val (.int (0 : Int32)), .val (.int (0 : Int32)), .val (.int (0 : Int32)), .unset, .unset]) d13_165 rfl (go_iloadN (pc := 167) d13_167 rfl (go_istore (pc := 168) (L' := [.val (.int v0), .val (.int v1), .val (.int v2), .val (.int v3), .val (.ref 1), .val (.int v1), .val (.int v2), .val (.int (0 : Int32)), .val (.int (0 : Int32)), .unset, .unset]) d13_168 rfl (go_iloadN (pc := 170) d13_170 rfl (go_istore (pc := 171) (L' := [.val (.int v0), .val (.int v1), .val (.int v2), .val (.int v3), .val (.ref 1), .val (.int v1), .val (.int v2), .val (.int v3), .val (.int (0 : Int32)), .unset, .unset]) d13_171 rfl ?_)))))))
                    refine go_goto (pc := 173) (pc' := 248) d13_173 j_173_75 ?_
                    exact law_248_ok v0 v1 v2 v3 v1 v2 v3 (0 : Int32) r13.2 _ (by simpa only [if_pos h9, if_neg h16, if_neg h17, if_pos h18] using hf)
                  · refine go_ifN (pc := 154) d13_154 (XT.i0_eq_f h18) ?_
                    refine go_iconst (pc := 157) d13_157 ci_1 (go_goto (pc := 158) (pc' := 162) d13_158 j_158_4 (go_istore (pc := 162) (L' := [.val (.int v0), .val (.int v1), .val (.int v2), .val (.int v3), .val (.ref 1), .val (.int (0 : Int32)), .val (.int (0 : Int32)), .val (.int (0 : Int32)), .val (.int (1 : Int32)), .unset, .unset]) d13_162 rfl (go_iloadN (pc := 164) d13_164 rfl (go_istore (pc := 165) (L' := [.val (.int v0), .val (.int v1), .val (.int v2), .val (.int v3), .val (.ref 1), .val (.int v1), .val (.int (0 : Int32)), .val (.int (0 : Int32)), .val (.int (1 : Int32)), .unset, .unset]) d13_165 rfl (go_iloadN (pc := 167) d13_167 rfl (go_istore (pc := 168) (L' := [.val (.int v0), .val (.int v1), .val (.int v2), .val (.int v3), .val (.ref 1), .val (.int v1), .val (.int v2), .val (.int (0 : Int32)), .val (.int (1 : Int32)), .unset, .unset]) d13_168 rfl (go_iloadN (pc := 170) d13_170 rfl ?_)))))))
                    refine go_istore (pc := 171) (L' := [.val (.int v0), .val (.int v1), .val (.int v2), .val (.int v3), .val (.ref 1), .val (.int v1), .val (.int v2), .val (.int v3), .val (.int (1 : Int32)), .unset, .unset]) d13_171 rfl (go_goto (pc := 173) (pc' := 248) d13_173 j_173_75 ?_)
                    exact law_248_ok v0 v1 v2 v3 v1 v2 v3 (1 : Int32) r13.2 _ (by simpa only [if_pos h9, if_neg h16, if_neg h17, if_neg h18] using hf)
            · refine go_icY (pc := 133) (pc' := 176) d13_133 (XT.ii_ne_t h9) j_133_43 ?_
              refine go_iloadN (pc := 176) d13_176 rfl (go_iconst (pc := 177) d13_177 ci_5 ?_)
              by_cases h10 : v0 = (5 : Int32)
              · refine go_icN (pc := 178) d13_178 (XT.ii_ne_f h10) ?_
                refine go_iloadN (pc := 181) d13_181 rfl (go_stat (pc := 182) (as := [.int v1]) (rest := []) (w' := (none, [(22, r13.2)])) lk_1_20 pd_3 rfl rfl ⟨Nat.le_of_ble_eq_true rfl, Nat.le_of_ble_eq_true rfl⟩ ⟨rfl, rfl, rfl⟩ ⟨rfl, rfl, rfl, rfl, rfl⟩ d13_182 (c_h_reg_n1 v1 r13.2) ?_)
                by_cases h13 : (h_reg v1) = 0
                · refine go_ifY (pc := 185) (pc' := 206) d13_185 (XT.i0_eq_t h13) j_185_21 ?_
                  refine go_iconst (pc := 206) d13_206 ci_0 (go_istore (pc := 207) (L' := [.val (.int v0), .val (.int v1), .val (.int v2), .val (.int v3), .val (.ref 1), .val (.int (0 : Int32)), .val (.int (0 : Int32)), .val (.int (0 : Int32)), .val (.int (0 : Int32)), .unset, .unset]) d13_207 rfl (go_iloadN (pc := 209) d13_209 rfl (go_istore (pc := 210) (L' := [.val (.int v0), .val (.int v1), .val (.int v2), .val (.int v3), .val (.ref 1), .val (.int v1), .val (.int (0 : Int32)), .val (.int (0 : Int32)), .val (.int (0 : Int32)), .unset, .unset]) d13_210 rfl (go_iloadN (pc := 212) d13_212 rfl (go_istore (pc := 213) (L' := [.val (.int v0), .val (.int v1), .val (.int v2), .val (.int v3), .val (.ref 1), .val (.int v1), .val (.int v2), .val (.int (0 : Int32)), .val (.int (0 : Int32)), .unset, .unset]) d13_213 rfl (go_iloadN (pc := 215) d13_215 rfl (go_istore (pc := 216) (L' := [.val (.int v0), .val (.int v1), .val (.int v2), .val (.int v3), .val (.ref 1), .val (.int v1), .val (.int v2), .val (.int v3), .val (.int (0 : Int32)), .unset, .unset]) d13_216 rfl ?_)))))))
                  refine go_goto (pc := 218) (pc' := 248) d13_218 j_218_30 ?_
                  exact law_248_ok v0 v1 v2 v3 v1 v2 v3 (0 : Int32) r13.2 _ (by simpa only [if_neg h9, if_pos h10, if_pos h13] using hf)
                · refine go_ifN (pc := 185) d13_185 (XT.i0_eq_f h13) ?_
                  refine go_iloadN (pc := 188) d13_188 rfl (go_stat (pc := 189) (as := [.int v2]) (rest := []) (w' := (none, [(22, r13.2)])) lk_1_26 pd_4 rfl rfl ⟨Nat.le_of_ble_eq_true rfl, Nat.le_of_ble_eq_true rfl⟩ ⟨rfl, rfl, rfl⟩ ⟨rfl, rfl, rfl, rfl, rfl⟩ d13_189 (c_h_off_n1 v2 r13.2) ?_)
                  by_cases h14 : (h_off v2) = 0
                  · refine go_ifY (pc := 192) (pc' := 206) d13_192 (XT.i0_eq_t h14) j_192_14 ?_
                    refine go_iconst (pc := 206) d13_206 ci_0 (go_istore (pc := 207) (L' := [.val (.int v0), .val (.int v1), .val (.int v2), .val (.int v3), .val (.ref 1), .val (.int (0 : Int32)), .val (.int (0 : Int32)), .val (.int (0 : Int32)), .val (.int (0 : Int32)), .unset, .unset]) d13_207 rfl (go_iloadN (pc := 209) d13_209 rfl (go_istore (pc := 210) (L' := [.val (.int v0), .val (.int v1), .val (.int v2), .val (.int v3), .val (.ref 1), .val (.int v1), .val (.int (0 : Int32)), .val (.int (0 : Int32)), .val (.int (0 : Int32)), .unset, .unset]) d13_210 rfl (go_iloadN (pc := 212) d13_212 rfl (go_istore (pc := 213) (L' := [.val (.int v0), .val (.int v1), .val (.int v2), .val (.int v3), .val (.ref 1), .val (.int v1), .val (.int v2), .val (.int (0 : Int32)), .val (.int (0 : Int32)), .unset, .unset]) d13_213 rfl (go_iloadN (pc := 215) d13_215 rfl (go_istore (pc := 216) (L' := [.val (.int v0), .val (.int v1), .val (.int v2), .val (.int v3), .val (.ref 1), .val (.int v1), .val (.int v2), .val (.int v3), .val (.int (0 : Int32)), .unset, .unset]) d13_216 rfl ?_)))))))
                    refine go_goto (pc := 218) (pc' := 248) d13_218 j_218_30 ?_
                    exact law_248_ok v0 v1 v2 v3 v1 v2 v3 (0 : Int32) r13.2 _ (by simpa only [if_neg h9, if_pos h10, if_neg h13, if_pos h14] using hf)
                  · refine go_ifN (pc := 192) d13_192 (XT.i0_eq_f h14) ?_
                    refine go_iloadN (pc := 195) d13_195 rfl (go_stat (pc := 196) (as := [.int v3]) (rest := []) (w' := (none, [(22, r13.2)])) lk_1_20 pd_3 rfl rfl ⟨Nat.le_of_ble_eq_true rfl, Nat.le_of_ble_eq_true rfl⟩ ⟨rfl, rfl, rfl⟩ ⟨rfl, rfl, rfl, rfl, rfl⟩ d13_196 (c_h_reg_n1 v3 r13.2) ?_)
                    by_cases h15 : (h_reg v3) = 0
                    · refine go_ifY (pc := 199) (pc' := 206) d13_199 (XT.i0_eq_t h15) j_199_7 ?_
                      refine go_iconst (pc := 206) d13_206 ci_0 (go_istore (pc := 207) (L' := [.val (.int v0), .val (.int v1), .val (.int v2), .val (.int v3), .val (.ref 1), .val (.int (0 : Int32)), .val (.int (0 : Int32)), .val (.int (0 : Int32)), .val (.int (0 : Int32)), .unset, .unset]) d13_207 rfl (go_iloadN (pc := 209) d13_209 rfl (go_istore (pc := 210) (L' := [.val (.int v0), .val (.int v1), .val (.int v2), .val (.int v3), .val (.ref 1), .val (.int v1), .val (.int (0 : Int32)), .val (.int (0 : Int32)), .val (.int (0 : Int32)), .unset, .unset]) d13_210 rfl (go_iloadN (pc := 212) d13_212 rfl (go_istore (pc := 213) (L' := [.val (.int v0), .val (.int v1), .val (.int v2), .val (.int v3), .val (.ref 1), .val (.int v1), .val (.int v2), .val (.int (0 : Int32)), .val (.int (0 : Int32)), .unset, .unset]) d13_213 rfl (go_iloadN (pc := 215) d13_215 rfl (go_istore (pc := 216) (L' := [.val (.int v0), .val (.int v1), .val (.int v2), .val (.int v3), .val (.ref 1), .val (.int v1), .val (.int v2), .val (.int v3), .val (.int (0 : Int32)), .unset, .unset]) d13_216 rfl ?_)))))))
                      refine go_goto (pc := 218) (pc' := 248) d13_218 j_218_30 ?_
                      exact law_248_ok v0 v1 v2 v3 v1 v2 v3 (0 : Int32) r13.2 _ (by simpa only [if_neg h9, if_pos h10, if_neg h13, if_neg h14, if_pos h15] using hf)
                    · refine go_ifN (pc := 199) d13_199 (XT.i0_eq_f h15) ?_
                      refine go_iconst (pc := 202) d13_202 ci_1 (go_goto (pc := 203) (pc' := 207) d13_203 j_203_4 (go_istore (pc := 207) (L' := [.val (.int v0), .val (.int v1), .val (.int v2), .val (.int v3), .val (.ref 1), .val (.int (0 : Int32)), .val (.int (0 : Int32)), .val (.int (0 : Int32)), .val (.int (1 : Int32)), .unset, .unset]) d13_207 rfl (go_iloadN (pc := 209) d13_209 rfl (go_istore (pc := 210) (L' := [.val (.int v0), .val (.int v1), .val (.int v2), .val (.int v3), .val (.ref 1), .val (.int v1), .val (.int (0 : Int32)), .val (.int (0 : Int32)), .val (.int (1 : Int32)), .unset, .unset]) d13_210 rfl (go_iloadN (pc := 212) d13_212 rfl (go_istore (pc := 213) (L' := [.val (.int v0), .val (.int v1), .val (.int v2), .val (.int v3), .val (.ref 1), .val (.int v1), .val (.int v2), .val (.int (0 : Int32)), .val (.int (1 : Int32)), .unset, .unset]) d13_213 rfl (go_iloadN (pc := 215) d13_215 rfl ?_)))))))
                      refine go_istore (pc := 216) (L' := [.val (.int v0), .val (.int v1), .val (.int v2), .val (.int v3), .val (.ref 1), .val (.int v1), .val (.int v2), .val (.int v3), .val (.int (1 : Int32)), .unset, .unset]) d13_216 rfl (go_goto (pc := 218) (pc' := 248) d13_218 j_218_30 ?_)
                      exact law_248_ok v0 v1 v2 v3 v1 v2 v3 (1 : Int32) r13.2 _ (by simpa only [if_neg h9, if_pos h10, if_neg h13, if_neg h14, if_neg h15] using hf)
              · refine go_icY (pc := 178) (pc' := 221) d13_178 (XT.ii_ne_t h10) j_178_43 ?_
                refine go_iloadN (pc := 221) d13_221 rfl (go_bipush (pc := 222) d13_222 cb_9 ?_)
                by_cases h11 : v0 = (9 : Int32)
                · refine go_icY (pc := 224) (pc' := 233) d13_224 (XT.ii_eq_t h11) j_224_9 ?_
                  refine go_iconst (pc := 233) d13_233 ci_1 (go_istore (pc := 234) (L' := [.val (.int v0), .val (.int v1), .val (.int v2), .val (.int v3), .val (.ref 1), .val (.int (0 : Int32)), .val (.int (0 : Int32)), .val (.int (0 : Int32)), .val (.int (1 : Int32)), .unset, .unset]) d13_234 rfl (go_goto (pc := 236) (pc' := 248) d13_236 j_236_12 ?_))
                  exact law_248_ok v0 v1 v2 v3 (0 : Int32) (0 : Int32) (0 : Int32) (1 : Int32) r13.2 _ (by simpa only [if_neg h9, if_neg h10, if_pos h11] using hf)
                · refine go_icN (pc := 224) d13_224 (XT.ii_eq_f h11) ?_
                  refine go_iloadN (pc := 227) d13_227 rfl (go_bipush (pc := 228) d13_228 cb_10 ?_)
                  by_cases h12 : v0 = (10 : Int32)
                  · refine go_icN (pc := 230) d13_230 (XT.ii_ne_f h12) ?_
                    refine go_iconst (pc := 233) d13_233 ci_1 (go_istore (pc := 234) (L' := [.val (.int v0), .val (.int v1), .val (.int v2), .val (.int v3), .val (.ref 1), .val (.int (0 : Int32)), .val (.int (0 : Int32)), .val (.int (0 : Int32)), .val (.int (1 : Int32)), .unset, .unset]) d13_234 rfl (go_goto (pc := 236) (pc' := 248) d13_236 j_236_12 ?_))
                    exact law_248_ok v0 v1 v2 v3 (0 : Int32) (0 : Int32) (0 : Int32) (1 : Int32) r13.2 _ (by simpa only [if_neg h9, if_neg h10, if_neg h11, if_pos h12] using hf)
                  · refine go_icY (pc := 230) (pc' := 239) d13_230 (XT.ii_ne_t h12) j_230_9 ?_
                    refine go_iloadN (pc := 239) d13_239 rfl (go_stat (pc := 240) (as := [.int v1]) (rest := []) (w' := (none, [(22, r13.2)])) lk_1_20 pd_3 rfl rfl ⟨Nat.le_of_ble_eq_true rfl, Nat.le_of_ble_eq_true rfl⟩ ⟨rfl, rfl, rfl⟩ ⟨rfl, rfl, rfl, rfl, rfl⟩ d13_240 (c_h_reg_n1 v1 r13.2) (go_istore (pc := 243) (L' := [.val (.int v0), .val (.int v1), .val (.int v2), .val (.int v3), .val (.ref 1), .val (.int (0 : Int32)), .val (.int (0 : Int32)), .val (.int (0 : Int32)), .val (.int (h_reg v1)), .unset, .unset]) d13_243 rfl (go_iloadN (pc := 245) d13_245 rfl (go_istore (pc := 246) (L' := [.val (.int v0), .val (.int v1), .val (.int v2), .val (.int v3), .val (.ref 1), .val (.int v1), .val (.int (0 : Int32)), .val (.int (0 : Int32)), .val (.int (h_reg v1)), .unset, .unset]) d13_246 rfl ?_))))
                    exact law_248_ok v0 v1 v2 v3 v1 (0 : Int32) (0 : Int32) (h_reg v1) r13.2 _ (by simpa only [if_neg h9, if_neg h10, if_neg h11, if_neg h12] using hf)
  · replace hf := (if_neg h4).symm.trans hf
    refine go_ifY (pc := 16) (pc' := 27) d13_16 (XT.i0_ne_t h4) j_16_11 ?_
    refine go_iconst (pc := 27) d13_27 ci_0 ?_
    cases hf
    exact go_zret (pc := 28) rfl d13_28 (show (0 : Int32) = nar .boolean (0 : Int32) by decide)
theorem own_core (v0 v1 v2 v3 v5 v6 v7 v8 : Int32) (t : S) (h8 : gI t 8 = 0) (h9 : gI t 9 = 1) (a0 : gA t 0 = rep 32 0) (a1 : gA t 1 = rep 32 0) (a2 : gA t 2 = rep 32 0) (a3 : gA t 3 = rep 32 0)
    (H : ¬ v0 < 1 → ¬ 12 < v0 → (v8 = 0 ∧ (k_fits (k_roleOfA v0) v1 = 0 ∨ k_fits (k_roleOfB v0) v2 = 0 ∨ k_fits (k_roleOfC v0) v3 = 0)) ∨ (v8 ≠ 0 ∧ k_fits (k_roleOfA v0) v1 ≠ 0 ∧ k_fits (k_roleOfB v0) v2 ≠ 0 ∧ k_fits (k_roleOfC v0) v3 ≠ 0 ∧ k_kept (k_roleOfA v0) v1 = v5 ∧ k_kept (k_roleOfB v0) v2 = v6 ∧ k_kept (k_roleOfC v0) v3 = v7)) : ∃ u, law_248 v0 v1 v2 v3 v5 v6 v7 v8 t = some (1, u) := by
  have n1 : nar .boolean 1 = 1 := by decide
  have n0 : nar .boolean 0 = 0 := by decide
  have bad : ∀ r : Int32, r ≠ 0 → k_add v0 v1 v2 v3 t = some (r, t) → ∃ u, law_287 v0 v1 v2 v3 v5 v6 v7 r (0 : Int32) t = some (1, u) := fun r _ e => by
    have g : ∀ k, k_getField 0 k t = some 0 := fun k => by
      unfold k_getField
      rw [if_neg (by decide), h8, if_neg (by decide)]
    refine ⟨t, ?_⟩
    simp [law_287, law_320, law_352, law_373, law_396, law_417, k_isCompiled, k_length, e, h8, h9, n1, g]
  unfold law_248 law_275
  by_cases q : v0 < 1
  · have e : k_add v0 v1 v2 v3 t = some (-2, t) := by unfold k_add; rw [h8, if_pos (by decide), if_pos q]
    simpa [q] using bad (-2) (by decide) e
  by_cases r : 12 < v0
  · have e : k_add v0 v1 v2 v3 t = some (-2, t) := by unfold k_add; rw [h8, if_pos (by decide), if_neg q, if_pos r]
    simpa [q, r] using bad (-2) (by decide) e
  rcases H q r with ⟨hv, hf⟩ | ⟨hv, f1, f2, f3, e5, e6, e7⟩
  · have e : k_add v0 v1 v2 v3 t = some (-3, t) := by
      unfold k_add
      rw [h8, if_pos (by decide), if_neg q, if_neg r]
      by_cases c1 : k_fits (k_roleOfA v0) v1 = 0
      · rw [if_pos c1]
      · rw [if_neg c1]
        by_cases c2 : k_fits (k_roleOfB v0) v2 = 0
        · rw [if_pos c2]
        · rw [if_neg c2]
          rcases hf with hf | hf | hf
          · exact absurd hf c1
          · exact absurd hf c2
          · rw [if_pos hf]
    simpa [q, r, hv] using bad (-3) (by decide) e
  · have st0 : ∀ (l : List Int32) x, l = rep 32 0 → Jvm.AM.st l 0 x = some (l.set 0 x) := fun l x hl => st_ofNat (k := 0) _ _ (by omega) (by rw [hl, rep_length]; omega)
    have ix0 : ∀ (l : List Int32) x, l = rep 32 0 → ix (l.set 0 x) 0 = some x := fun l x hl => by
      rw [show (0 : Int32) = Int32.ofNat 0 from rfl, ix_ofNat _ (by omega), List.getElem?_set_self (by rw [hl, rep_length]; omega)]
    obtain ⟨u, hu⟩ : ∃ u, u = sI (sI (sA (sA (sA (sA t 0 ((gA t 0).set 0 v0)) 1 ((gA t 1).set 0 v5)) 2 ((gA t 2).set 0 v6)) 3 ((gA t 3).set 0 v7)) 8 ((0 : Int32) + 1)) 9 0 := ⟨_, rfl⟩
    have e : k_add v0 v1 v2 v3 t = some (0, u) := by
      unfold k_add
      rw [h8, if_pos (by decide), if_neg q, if_neg r, if_neg f1, if_neg f2, if_neg f3, e5, e6, e7, st0 _ _ a0, Option.bind_some, st0 _ _ a1, Option.bind_some, st0 _ _ a2, Option.bind_some, st0 _ _ a3, Option.bind_some, hu]
    have u8 : gI u 8 = 1 := by rw [hu]; simp [gI_sI]
    have u9 : gI u 9 = 0 := by rw [hu]; simp [gI_sI]
    have u0 : gA u 0 = (gA t 0).set 0 v0 := by rw [hu]; simp [gA_sI, gA_sA]
    have u1 : gA u 1 = (gA t 1).set 0 v5 := by rw [hu]; simp [gA_sI, gA_sA]
    have u2 : gA u 2 = (gA t 2).set 0 v6 := by rw [hu]; simp [gA_sI, gA_sA]
    have u3 : gA u 3 = (gA t 3).set 0 v7 := by rw [hu]; simp [gA_sI, gA_sA]
    have g0 : k_getField 0 0 u = some v0 := by
      unfold k_getField; rw [if_neg (by decide), u8, if_pos (by decide), if_pos (by decide), if_pos rfl, u0, ix0 _ _ a0, Option.bind_some]
    have g1 : k_getField 0 1 u = some v5 := by
      unfold k_getField; rw [if_neg (by decide), u8, if_pos (by decide), if_pos (by decide), if_neg (by decide), if_pos rfl, u1, ix0 _ _ a1, Option.bind_some]
    have g2 : k_getField 0 2 u = some v6 := by
      unfold k_getField; rw [if_neg (by decide), u8, if_pos (by decide), if_pos (by decide), if_neg (by decide), if_neg (by decide), if_pos rfl, u2, ix0 _ _ a2, Option.bind_some]
    have g3 : k_getField 0 3 u = some v7 := by
      unfold k_getField; rw [if_neg (by decide), u8, if_pos (by decide), if_pos (by decide), if_neg (by decide), if_neg (by decide), if_neg (by decide), if_pos rfl, u3, ix0 _ _ a3, Option.bind_some]
    refine ⟨u, ?_⟩
    simp [q, r, hv, law_287, law_320, law_352, law_373, law_396, law_417, k_isCompiled, k_length, e, u8, u9, n0, g0, g1, g2, g3]
theorem fits1 (v : Int32) : k_fits 1 v = h_reg v := by unfold k_fits h_reg; rw [if_pos rfl]
theorem fits2 (v : Int32) : k_fits 2 v = h_off v := by unfold k_fits h_off; rw [if_neg (by decide), if_pos rfl]
theorem fits0 (v : Int32) : k_fits 0 v = 1 := by unfold k_fits; rw [if_neg (by decide), if_neg (by decide)]
theorem fits3 (v : Int32) : k_fits 3 v = 1 := by unfold k_fits; rw [if_neg (by decide), if_neg (by decide)]
theorem kept0 (v : Int32) : k_kept 0 v = 0 := by unfold k_kept; rw [if_pos rfl]
theorem kept1 (v : Int32) : k_kept 1 v = v := by unfold k_kept; rw [if_neg (by decide)]
theorem kept2 (v : Int32) : k_kept 2 v = v := by unfold k_kept; rw [if_neg (by decide)]
theorem kept3 (v : Int32) : k_kept 3 v = v := by unfold k_kept; rw [if_neg (by decide)]
theorem law_true (v0 v1 v2 v3 : Int32) : ∃ t, law v0 v1 v2 v3 = some (1, t) := by
  obtain ⟨s, e0, s8, s13, a0, a1, a2, a3⟩ : ∃ s, k_init 16 = some s ∧ gI s 8 = 0 ∧ True ∧ gA s 0 = rep 32 0 ∧ gA s 1 = rep 32 0 ∧ gA s 2 = rep 32 0 ∧ gA s 3 = rep 32 0 := by
    refine ⟨_, by unfold k_init k_init_230 k_init_239; rfl, ?_, ?_, ?_, ?_, ?_, ?_⟩
    all_goals simp [gI_sI, gI_sA, gA_sI, gA_sA]
  obtain ⟨t, ht⟩ : ∃ t, t = sI (sI (sI s 13 0) 14 0) 9 1 := ⟨_, rfl⟩
  have ec : k_compile s = some (0, t) := by
    unfold k_compile k_compile_44
    rw [s8, if_neg (by decide), if_neg (by simp [gI_sI]), ht]
  have t8 : gI t 8 = 0 := by rw [ht]; simp [gI_sI, s8]
  have t9 : gI t 9 = 1 := by rw [ht]; simp [gI_sI]
  have t0 : gA t 0 = rep 32 0 := by rw [ht]; simp [gA_sI, a0]
  have t1 : gA t 1 = rep 32 0 := by rw [ht]; simp [gA_sI, a1]
  have t2 : gA t 2 = rep 32 0 := by rw [ht]; simp [gA_sI, a2]
  have t3 : gA t 3 = rep 32 0 := by rw [ht]; simp [gA_sI, a3]
  have ci : k_isCompiled t = 1 := by unfold k_isCompiled; rw [t9]; decide
  have C := fun v5 v6 v7 v8 H => own_core v0 v1 v2 v3 v5 v6 v7 v8 t t8 t9 t0 t1 t2 t3 H
  unfold law law_117 law_82
  rw [e0, Option.bind_some, ec, Option.bind_some]
  dsimp only
  rw [if_pos rfl, ci, if_neg (by decide)]
  by_cases c1 : v0 = 1
  · subst c1
    rw [if_pos rfl]
    apply C
    intro _ _
    simp [k_roleOfA, k_roleOfB, k_roleOfC, fits1, fits0, fits3, kept0, kept1, kept3]
    exact Decidable.em _
  rw [if_neg c1]
  by_cases c2 : v0 = 2
  · subst c2
    rw [if_pos rfl]
    apply C
    intro _ _
    simp only [k_roleOfA, k_roleOfB, k_roleOfC]
    simp [fits1, fits0, fits3, kept0, kept1, kept3]
    by_cases r1 : h_reg v1 = 0 <;> by_cases r2 : h_reg v2 = 0 <;> simp [r1, r2]
  rw [if_neg c2]
  by_cases c3 : v0 = 3
  · subst c3
    rw [if_pos rfl]
    apply C
    intro _ _
    simp only [k_roleOfA, k_roleOfB, k_roleOfC]
    simp [fits1, fits0, fits3, kept0, kept1, kept3]
    by_cases r1 : h_reg v1 = 0 <;> by_cases r2 : h_reg v2 = 0 <;> simp [r1, r2]
  rw [if_neg c3]
  apply C
  intro _ _
  by_cases c4 : v0 = 4
  · subst c4
    simp only [k_roleOfA, k_roleOfB, k_roleOfC]
    simp [fits1, fits0, fits3, fits2, kept0, kept1, kept3, kept2]
    by_cases r1 : h_reg v1 = 0 <;> by_cases r2 : h_reg v2 = 0 <;> by_cases r3 : h_off v3 = 0 <;> simp [r1, r2, r3]
  by_cases c5 : v0 = 5
  · subst c5
    simp only [k_roleOfA, k_roleOfB, k_roleOfC]
    simp [fits1, fits0, fits3, fits2, kept0, kept1, kept3, kept2]
    by_cases r1 : h_reg v1 = 0 <;> by_cases r2 : h_off v2 = 0 <;> by_cases r3 : h_reg v3 = 0 <;> simp [r1, r2, r3]
  by_cases c9 : v0 = 9
  · subst c9
    simp only [k_roleOfA, k_roleOfB, k_roleOfC]
    simp [fits1, fits0, fits3, fits2, kept0, kept1, kept3, kept2]
  by_cases c10 : v0 = 10
  · subst c10
    simp only [k_roleOfA, k_roleOfB, k_roleOfC]
    simp [fits1, fits0, fits3, fits2, kept0, kept1, kept3, kept2]
  simp only [k_roleOfA, k_roleOfB, k_roleOfC, c1, c2, c3, c4, c5, c9, c10, if_false]
  simp [fits1, fits0, fits3, fits2, kept0, kept1, kept3, kept2]
  exact Decidable.em _
set_option maxRecDepth 65536 in
set_option maxHeartbeats 40000000 in
theorem comes_1 {Post : Tables → Env → Array Value → State → Outcome → State → Prop} (hpost : ∀ tb e args s v u, (limb_1_1.after args s (.returned v) u = true ∧ limb_1_2.after args s (.returned v) u = true ∧ True) → FrameEnd s (.returned v) u (Jvm.fieldLocs frame_1_writes args s ++ Jvm.arrayLocs frame_1_arrays args s ++ Jvm.staticLocs frame_1_statics s) 56 1536 → Post tb e args s (.returned v) u) :
    ArmFor flags0 classFile x code maxLocals ret World_1 tables_1 room_1 Calls_1 rest_1 Pre_1 Post := by
  intro l hfl _ _ p e ha hc hk s m args below hf hA hF happ hP
  obtain ⟨hcalls, hrest, hpre⟩ := hP
  obtain ⟨-, -, -, hnamed, -, -, -, hat⟩ := (Spec.applies_iff hf).mp happ
  obtain ⟨hg, hn⟩ := and_e (Cond.before_iff.mp (show (Jvm.Cond.and given_1 narrow_1).before args s = true from hpre))
  obtain ⟨g0, b0⟩ := and_e hg
  obtain ⟨a0, b1⟩ := and_e b0
  obtain ⟨a1, b2⟩ := and_e b1
  obtain ⟨a2, b3⟩ := and_e b2
  have a3 := b3
  obtain ⟨w0, w1, w2, w3, rfl⟩ : ∃ w0 w1 w2 w3 : Value, args = #[w0, w1, w2, w3] := by
    have hs : args.size = 4 := by simpa [Cond.value, given_1] using g0
    obtain ⟨L⟩ := args
    match L, hs with
    | [w0, w1, w2, w3], _ => exact ⟨w0, w1, w2, w3, rfl⟩
  have hw := fun d (hd : d ∈ tables_1) => atoms_spec (ws := Jvm.Cond.code x code maxLocals ret :: tables_1) hat d (List.mem_cons_of_mem _ hd)
  have hfit : Fit s := fun {y c} hc i hi => by
    obtain ⟨ha, rfl⟩ := Array.getElem?_eq_some_iff.mp hc
    have q := List.all_eq_true.mp ((Array.all_eq_true_iff_forall_mem.mp hF) _ (Array.getElem_mem ha)) i (List.mem_range.mpr hi)
    simpa [Array.getElem?_eq_getElem hi] using q
  obtain ⟨i0, ei0⟩ := is_v a0
  obtain rfl : w0 = (.int i0) := Option.some.inj ei0
  obtain ⟨i1, ei1⟩ := is_v a1
  obtain rfl : w1 = (.int i1) := Option.some.inj ei1
  obtain ⟨i2, ei2⟩ := is_v a2
  obtain rfl : w2 = (.int i2) := Option.some.inj ei2
  obtain ⟨i3, ei3⟩ := is_v a3
  obtain rfl : w3 = (.int i3) := Option.some.inj ei3
  obtain ⟨t, ht⟩ := law_true i0 i1 i2 i3
  have C : Call PP m13 [.int i0, .int i1, .int i2, .int i3] (none, []) (some (.int ((1 : Int32), t).1), (none, [(22, ((1 : Int32), t).2)])) := call_of_go pl_1 rfl (fun h => by cases h) (law_ok i0 i1 i2 i3 _ ht)
  obtain ⟨n, o, h1, h2, h3, _, L, rfl, ⟨rfl, N, _⟩, hq⟩ := C l s _ tables_1 0 s.heap.size s.heap.size s.heap hw (facts1 hw) (Nat.le_refl _) (repW_none ..) (by decide) (fun _ => ⟨rfl, rfl, rfl⟩) p e ha hc hk s m _ below hf ((Spec.applies_iff_loose hf).mp happ).1 ⟨rfl, State.Warmed39.refl s, rfl⟩ trivial
  refine ⟨n, _, h1, h2, h3, hpost _ _ _ _ _ _ ⟨Cond.after_iff.mpr rfl, Cond.after_iff.mpr (eq_i res_at (Term.int_eval (1)) rfl), trivial⟩ ⟨hq.1, hq.2.1, (hq.2.2.sift fun y hy => Or.inr (N y hy)).mono (by decide) (by decide)⟩⟩
theorem main_1_1 : Claimed_1_1 := comes_1 fun _ _ _ _ _ _ h hF => ⟨h.1, hF⟩
theorem main_1_2 : Claimed_1_2 := comes_1 fun _ _ _ _ _ _ h hF => ⟨h.2.1, hF⟩
end Jvm.Pilot.@@N@@
namespace Jvm.Pilot.@@N@@
open Jvm Jvm.ClassFile Sem Op Lib Jvm.Free Jvm.Stand Jvm.Pilot.@@N@@.Jvm.D
/-! MADE BY PROGRAM (witnessworld.py) out of the Statement's table words and the real class files: 11 classes; the members and pool entries that the words name. The judged class is class 1, her method 3. -/
namespace start1
open Jvm.ClassFile
def u (s : String) : CpInfo := .utf8 (stringToUtf16 s)
/-- a pool by its gaps: so many unusable entries, then the entry; so many at the end -/
def gap : Nat → List CpInfo → List CpInfo
  | 0, r => r
  | n + 1, r => .unusable :: gap n r
def poolList (es : List (Nat × CpInfo)) (last : Nat) : List CpInfo := es.foldr (fun e r => gap e.1 (e.2 :: r)) (gap last [])
def pool (es : List (Nat × CpInfo)) (last : Nat) : Array CpInfo := ⟨poolList es last⟩
def fileOf (pool : Array CpInfo) (this : Nat) (attrs : Array Attribute := #[]) (ms : Array MethodInfo := #[]) (fl : Nat := 33) (sup : Nat := 0) (ifs : Array Nat := #[]) (fds : Array FieldInfo := #[]) : ClassFile where
  minorVersion := 0
  majorVersion := 65
  constantPool := pool
  accessFlags := fl
  thisClass := this
  superClass := sup
  interfaces := ifs
  fields := fds
  methods := ms
  attributes := attrs
def plain (name : String) (sup : Option ClassId) : Class where
  name := name
  kind := .ordinary
  loader := none
  accessFlags := 33
  super := sup
  interfaces := #[]
  cf := none
  fields := #[]
  methods := #[]
  instanceTypes := #[]
  staticTypes := #[]
  resolved := #[]
  callSites := []
  init := .initialized
  statics := none
  mirror := none

def pool0 : Array CpInfo := pool [(5, u "<init>"), (0, u "()V"), (1, .class_ 10), (1, u "java/lang/Object")] 113

def k0c0 : Code := { maxStack := 0, maxLocals := 1, code := object_method_1_code, exceptionTable := #[], attributes := #[] }
def k0m0 : Method := { name := "<init>", desc := "()V", sig := { parameters := [], returnType := none }, accessFlags := 1, code := some k0c0 }
/-- java/lang/Object -/
def k0 : Class := { plain "java/lang/Object" none with
  accessFlags := 33
  interfaces := #[]
  cf := some (fileOf pool0 8 #[] #[{ accessFlags := 1, nameIndex := 5, descriptorIndex := 6, attributes := #[] }] 33 0 #[] #[])
  fields := #[]
  methods := #[k0m0]
  instanceTypes := #[]
  staticTypes := #[]
  resolved := Array.replicate 124 none
  statics := none }

def pool1 : Array CpInfo := pool [(2, .class_ 4), (1, u "java/lang/Object"), (0, u "<init>"), (0, u "()V"), (0, .class_ 8), (0, u "NullCheckOpt"), (0, .methodref 7 10), (0, .nameAndType 5 11), (0, u "(I)V"), (0, .methodref 7 13), (0, .nameAndType 14 15), (0, u "compile"), (0, u "()I"), (0, .methodref 7 17), (0, .nameAndType 18 19), (0, u "isCompiled"), (0, u "()Z"), (0, .methodref 21 22), (0, .class_ 23), (0, .nameAndType 24 25), (0, u "NullCheckOptL2"), (0, u "reg"), (0, u "(I)Z"), (0, .methodref 21 27), (0, .nameAndType 28 25), (0, u "off"), (0, .methodref 7 30), (0, .nameAndType 31 32), (0, u "add"), (0, u "(IIII)I"), (0, .methodref 7 34), (0, .nameAndType 35 15), (0, u "length"), (0, .methodref 7 37), (0, .nameAndType 38 39), (0, u "getField"), (0, u "(II)I"), (3, u "law"), (0, u "(IIII)Z")] 2

def k1m0 : Method := { name := "<init>", desc := "()V", sig := { parameters := [], returnType := none }, accessFlags := 1, code := none }
def k1c1 : Code := { maxStack := 2, maxLocals := 1, code := method_2_code, exceptionTable := #[], attributes := #[] }
def k1m1 : Method := { name := "reg", desc := "(I)Z", sig := { parameters := [.int], returnType := some .boolean }, accessFlags := 10, code := some k1c1 }
def k1c2 : Code := { maxStack := 2, maxLocals := 1, code := method_3_code, exceptionTable := #[], attributes := #[] }
def k1m2 : Method := { name := "off", desc := "(I)Z", sig := { parameters := [.int], returnType := some .boolean }, accessFlags := 10, code := some k1c2 }
def k1c3 : Code := { maxStack := 5, maxLocals := 11, code := code, exceptionTable := #[], attributes := #[] }
def k1m3 : Method := { name := "law", desc := "(IIII)Z", sig := { parameters := [.int, .int, .int, .int], returnType := some .boolean }, accessFlags := 9, code := some k1c3 }
/-- NullCheckOptL2 -/
def k1 : Class := { plain "NullCheckOptL2" (some 0) with
  accessFlags := 49
  interfaces := #[]
  cf := some (fileOf pool1 21 #[] #[{ accessFlags := 1, nameIndex := 5, descriptorIndex := 6, attributes := #[] }, { accessFlags := 10, nameIndex := 24, descriptorIndex := 25, attributes := #[] }, { accessFlags := 10, nameIndex := 28, descriptorIndex := 25, attributes := #[] }, { accessFlags := 9, nameIndex := 43, descriptorIndex := 44, attributes := #[] }] 49 2 #[] #[])
  fields := #[]
  methods := #[k1m0, k1m1, k1m2, k1m3]
  instanceTypes := #[]
  staticTypes := #[]
  resolved := Array.replicate 47 none
  statics := none }

def pool2 : Array CpInfo := pool [(1, .methodref 2 3), (0, .class_ 4), (0, .nameAndType 5 6), (0, u "java/lang/Object"), (0, u "<init>"), (0, u "()V"), (0, .fieldref 8 9), (0, .class_ 10), (0, .nameAndType 11 12), (0, u "NullCheckOpt"), (0, u "roleNone"), (0, u "I"), (0, .fieldref 8 14), (0, .nameAndType 15 12), (0, u "roleReg"), (0, .fieldref 8 17), (0, .nameAndType 18 12), (0, u "roleOff"), (0, .fieldref 8 20), (0, .nameAndType 21 12), (0, u "roleImm"), (0, .fieldref 8 23), (0, .nameAndType 24 12), (0, u "stepLimit"), (0, .fieldref 8 26), (0, .nameAndType 27 12), (0, u "passLimit"), (0, .fieldref 8 29), (0, .nameAndType 30 12), (0, u "allFacts"), (0, .fieldref 8 32), (0, .nameAndType 33 34), (0, u "progOp"), (0, u "[I"), (0, .fieldref 8 36), (0, .nameAndType 37 34), (0, u "progA"), (0, .fieldref 8 39), (0, .nameAndType 40 34), (0, u "progB"), (0, .fieldref 8 42), (0, .nameAndType 43 34), (0, u "progC"), (0, .fieldref 8 45), (0, .nameAndType 46 34), (0, u "blockEnd"), (0, .fieldref 8 48), (0, .nameAndType 49 34), (0, u "blockElse"), (0, .fieldref 8 51), (0, .nameAndType 52 34), (0, u "blockOpener"), (0, .fieldref 8 54), (0, .nameAndType 55 34), (0, u "scanStack"), (0, .fieldref 8 57), (0, .nameAndType 58 59), (0, u "scanHasElse"), (0, u "[Z"), (0, .fieldref 8 61), (0, .nameAndType 62 34), (0, u "initialHeap"), (0, .fieldref 8 64), (0, .nameAndType 65 34), (0, u "heapAfter"), (0, .fieldref 8 67), (0, .nameAndType 68 34), (0, u "outputs"), (0, .fieldref 8 70), (0, .nameAndType 71 34), (0, u "regs"), (0, .fieldref 8 73), (0, .nameAndType 74 34), (0, u "loopLeft"), (0, .fieldref 8 76), (0, .nameAndType 77 59), (0, u "skipCheck"), (0, .fieldref 8 79), (0, .nameAndType 80 34), (0, u "hoistMask"), (0, .fieldref 8 82), (0, .nameAndType 83 34), (0, u "factIn"), (0, .fieldref 8 85), (0, .nameAndType 86 34), (0, u "nextIn"), (0, .fieldref 8 88), (0, .nameAndType 89 34), (0, u "succA"), (0, .fieldref 8 91), (0, .nameAndType 92 34), (0, u "succB"), (0, .fieldref 8 94), (0, .nameAndType 95 34), (0, u "gainA"), (0, .fieldref 8 97), (0, .nameAndType 98 34), (0, u "gainB"), (0, .fieldref 8 100), (0, .nameAndType 101 12), (0, u "cells"), (0, .fieldref 8 103), (0, .nameAndType 104 12), (0, u "progLen"), (0, .fieldref 8 106), (0, .nameAndType 107 108), (0, u "compiled"), (0, u "Z"), (0, .fieldref 8 110), (0, .nameAndType 111 12), (0, u "lastOutcome"), (0, .fieldref 8 113), (0, .nameAndType 114 12), (0, u "lastResult"), (0, .fieldref 8 116), (0, .nameAndType 117 12), (0, u "outCount"), (0, .methodref 8 119), (0, .nameAndType 120 121), (0, u "roleOfA"), (0, u "(I)I"), (0, .methodref 8 123), (0, .nameAndType 124 121), (0, u "roleOfB"), (0, .methodref 8 126), (0, .nameAndType 127 121), (0, u "roleOfC"), (0, .methodref 8 129), (0, .nameAndType 130 131), (0, u "fits"), (0, u "(II)Z"), (0, .methodref 8 133), (0, .nameAndType 134 135), (0, u "kept"), (0, u "(II)I"), (0, .fieldref 8 137), (0, .nameAndType 138 12), (0, u "scanDepth"), (0, .fieldref 8 140), (0, .nameAndType 141 12), (0, u "scanLoops"), (43, u "(I)V"), (28, u "()Z"), (43, u "(IIII)I"), (17, u "OP_CONST"), (2, u "OP_MOVE"), (1, u "OP_ADDI"), (1, u "OP_LOAD"), (1, u "OP_STORE"), (1, u "OP_CHECK"), (1, u "OP_OUT"), (1, u "OP_IFNULL"), (1, u "OP_ELSE"), (1, u "OP_END"), (1, u "OP_LOOP"), (1, u "OP_RET"), (1, u "MAX_INSTRUCTIONS"), (1, u "MAX_OUTPUTS"), (0, u "GUARD_CELLS"), (0, u "MAX_OPEN_BLOCKS"), (0, u "MAX_OPEN_LOOPS"), (0, u "OK"), (1, u "ERR_FULL"), (1, u "ERR_OP"), (1, u "ERR_OPERAND"), (1, u "ERR_ELSE"), (1, u "ERR_END"), (1, u "ERR_UNCLOSED"), (1, u "ERR_DEEP"), (1, u "ERR_NOT_READY"), (1, u "OUTCOME_NONE"), (0, u "OUTCOME_RETURN"), (0, u "OUTCOME_NULL_TRAP"), (0, u "OUTCOME_RANGE_TRAP"), (7, u "add"), (0, u "compile"), (0, u "()I"), (0, u "isCompiled"), (0, u "length"), (0, u "getField")] 12

def k2c0 : Code := { maxStack := 2, maxLocals := 3, code := prog_1_method_1_code, exceptionTable := #[], attributes := #[] }
def k2m0 : Method := { name := "<init>", desc := "(I)V", sig := { parameters := [.int], returnType := none }, accessFlags := 1, code := some k2c0 }
def k2c1 : Code := { maxStack := 5, maxLocals := 9, code := prog_1_method_3_code, exceptionTable := #[], attributes := #[] }
def k2m1 : Method := { name := "add", desc := "(IIII)I", sig := { parameters := [.int, .int, .int, .int], returnType := some .int }, accessFlags := 1, code := some k2c1 }
def k2c2 : Code := { maxStack := 2, maxLocals := 2, code := prog_1_method_4_code, exceptionTable := #[], attributes := #[] }
def k2m2 : Method := { name := "roleOfA", desc := "(I)I", sig := { parameters := [.int], returnType := some .int }, accessFlags := 2, code := some k2c2 }
def k2c3 : Code := { maxStack := 2, maxLocals := 2, code := prog_1_method_5_code, exceptionTable := #[], attributes := #[] }
def k2m3 : Method := { name := "roleOfB", desc := "(I)I", sig := { parameters := [.int], returnType := some .int }, accessFlags := 2, code := some k2c3 }
def k2c4 : Code := { maxStack := 2, maxLocals := 2, code := prog_1_method_6_code, exceptionTable := #[], attributes := #[] }
def k2m4 : Method := { name := "roleOfC", desc := "(I)I", sig := { parameters := [.int], returnType := some .int }, accessFlags := 2, code := some k2c4 }
def k2c5 : Code := { maxStack := 2, maxLocals := 3, code := prog_1_method_7_code, exceptionTable := #[], attributes := #[] }
def k2m5 : Method := { name := "fits", desc := "(II)Z", sig := { parameters := [.int, .int], returnType := some .boolean }, accessFlags := 2, code := some k2c5 }
def k2c6 : Code := { maxStack := 1, maxLocals := 3, code := prog_1_method_8_code, exceptionTable := #[], attributes := #[] }
def k2m6 : Method := { name := "kept", desc := "(II)I", sig := { parameters := [.int, .int], returnType := some .int }, accessFlags := 2, code := some k2c6 }
def k2c7 : Code := { maxStack := 2, maxLocals := 3, code := prog_1_method_9_code, exceptionTable := #[], attributes := #[] }
def k2m7 : Method := { name := "compile", desc := "()I", sig := { parameters := [], returnType := some .int }, accessFlags := 1, code := some k2c7 }
def k2c8 : Code := { maxStack := 1, maxLocals := 1, code := prog_1_method_14_code, exceptionTable := #[], attributes := #[] }
def k2m8 : Method := { name := "isCompiled", desc := "()Z", sig := { parameters := [], returnType := some .boolean }, accessFlags := 1, code := some k2c8 }
def k2c9 : Code := { maxStack := 1, maxLocals := 1, code := prog_1_method_15_code, exceptionTable := #[], attributes := #[] }
def k2m9 : Method := { name := "length", desc := "()I", sig := { parameters := [], returnType := some .int }, accessFlags := 1, code := some k2c9 }
def k2c10 : Code := { maxStack := 2, maxLocals := 3, code := prog_1_method_16_code, exceptionTable := #[], attributes := #[] }
def k2m10 : Method := { name := "getField", desc := "(II)I", sig := { parameters := [.int, .int], returnType := some .int }, accessFlags := 1, code := some k2c10 }
/-- NullCheckOpt -/
def k2 : Class := { plain "NullCheckOpt" (some 0) with
  accessFlags := 49
  interfaces := #[]
  cf := some (fileOf pool2 8 #[] #[{ accessFlags := 1, nameIndex := 5, descriptorIndex := 185, attributes := #[] }, { accessFlags := 1, nameIndex := 336, descriptorIndex := 258, attributes := #[] }, { accessFlags := 2, nameIndex := 120, descriptorIndex := 121, attributes := #[] }, { accessFlags := 2, nameIndex := 124, descriptorIndex := 121, attributes := #[] }, { accessFlags := 2, nameIndex := 127, descriptorIndex := 121, attributes := #[] }, { accessFlags := 2, nameIndex := 130, descriptorIndex := 131, attributes := #[] }, { accessFlags := 2, nameIndex := 134, descriptorIndex := 135, attributes := #[] }, { accessFlags := 1, nameIndex := 337, descriptorIndex := 338, attributes := #[] }, { accessFlags := 1, nameIndex := 339, descriptorIndex := 214, attributes := #[] }, { accessFlags := 1, nameIndex := 340, descriptorIndex := 338, attributes := #[] }, { accessFlags := 1, nameIndex := 341, descriptorIndex := 135, attributes := #[] }] 49 2 #[] #[{ accessFlags := 25, nameIndex := 276, descriptorIndex := 12, attributes := #[] }, { accessFlags := 25, nameIndex := 279, descriptorIndex := 12, attributes := #[] }, { accessFlags := 25, nameIndex := 281, descriptorIndex := 12, attributes := #[] }, { accessFlags := 25, nameIndex := 283, descriptorIndex := 12, attributes := #[] }, { accessFlags := 25, nameIndex := 285, descriptorIndex := 12, attributes := #[] }, { accessFlags := 25, nameIndex := 287, descriptorIndex := 12, attributes := #[] }, { accessFlags := 25, nameIndex := 289, descriptorIndex := 12, attributes := #[] }, { accessFlags := 25, nameIndex := 291, descriptorIndex := 12, attributes := #[] }, { accessFlags := 25, nameIndex := 293, descriptorIndex := 12, attributes := #[] }, { accessFlags := 25, nameIndex := 295, descriptorIndex := 12, attributes := #[] }, { accessFlags := 25, nameIndex := 297, descriptorIndex := 12, attributes := #[] }, { accessFlags := 25, nameIndex := 299, descriptorIndex := 12, attributes := #[] }, { accessFlags := 25, nameIndex := 301, descriptorIndex := 12, attributes := #[] }, { accessFlags := 25, nameIndex := 303, descriptorIndex := 12, attributes := #[] }, { accessFlags := 25, nameIndex := 304, descriptorIndex := 12, attributes := #[] }, { accessFlags := 25, nameIndex := 305, descriptorIndex := 12, attributes := #[] }, { accessFlags := 25, nameIndex := 306, descriptorIndex := 12, attributes := #[] }, { accessFlags := 25, nameIndex := 307, descriptorIndex := 12, attributes := #[] }, { accessFlags := 25, nameIndex := 309, descriptorIndex := 12, attributes := #[] }, { accessFlags := 25, nameIndex := 311, descriptorIndex := 12, attributes := #[] }, { accessFlags := 25, nameIndex := 313, descriptorIndex := 12, attributes := #[] }, { accessFlags := 25, nameIndex := 315, descriptorIndex := 12, attributes := #[] }, { accessFlags := 25, nameIndex := 317, descriptorIndex := 12, attributes := #[] }, { accessFlags := 25, nameIndex := 319, descriptorIndex := 12, attributes := #[] }, { accessFlags := 25, nameIndex := 321, descriptorIndex := 12, attributes := #[] }, { accessFlags := 25, nameIndex := 323, descriptorIndex := 12, attributes := #[] }, { accessFlags := 25, nameIndex := 325, descriptorIndex := 12, attributes := #[] }, { accessFlags := 25, nameIndex := 326, descriptorIndex := 12, attributes := #[] }, { accessFlags := 25, nameIndex := 327, descriptorIndex := 12, attributes := #[] }, { accessFlags := 25, nameIndex := 328, descriptorIndex := 12, attributes := #[] }, { accessFlags := 18, nameIndex := 11, descriptorIndex := 12, attributes := #[] }, { accessFlags := 18, nameIndex := 15, descriptorIndex := 12, attributes := #[] }, { accessFlags := 18, nameIndex := 18, descriptorIndex := 12, attributes := #[] }, { accessFlags := 18, nameIndex := 21, descriptorIndex := 12, attributes := #[] }, { accessFlags := 18, nameIndex := 24, descriptorIndex := 12, attributes := #[] }, { accessFlags := 18, nameIndex := 27, descriptorIndex := 12, attributes := #[] }, { accessFlags := 18, nameIndex := 30, descriptorIndex := 12, attributes := #[] }, { accessFlags := 2, nameIndex := 101, descriptorIndex := 12, attributes := #[] }, { accessFlags := 18, nameIndex := 33, descriptorIndex := 34, attributes := #[] }, { accessFlags := 18, nameIndex := 37, descriptorIndex := 34, attributes := #[] }, { accessFlags := 18, nameIndex := 40, descriptorIndex := 34, attributes := #[] }, { accessFlags := 18, nameIndex := 43, descriptorIndex := 34, attributes := #[] }, { accessFlags := 2, nameIndex := 104, descriptorIndex := 12, attributes := #[] }, { accessFlags := 2, nameIndex := 107, descriptorIndex := 108, attributes := #[] }, { accessFlags := 18, nameIndex := 46, descriptorIndex := 34, attributes := #[] }, { accessFlags := 18, nameIndex := 49, descriptorIndex := 34, attributes := #[] }, { accessFlags := 18, nameIndex := 52, descriptorIndex := 34, attributes := #[] }, { accessFlags := 18, nameIndex := 55, descriptorIndex := 34, attributes := #[] }, { accessFlags := 18, nameIndex := 58, descriptorIndex := 59, attributes := #[] }, { accessFlags := 2, nameIndex := 138, descriptorIndex := 12, attributes := #[] }, { accessFlags := 2, nameIndex := 141, descriptorIndex := 12, attributes := #[] }, { accessFlags := 18, nameIndex := 62, descriptorIndex := 34, attributes := #[] }, { accessFlags := 18, nameIndex := 65, descriptorIndex := 34, attributes := #[] }, { accessFlags := 2, nameIndex := 111, descriptorIndex := 12, attributes := #[] }, { accessFlags := 2, nameIndex := 114, descriptorIndex := 12, attributes := #[] }, { accessFlags := 2, nameIndex := 117, descriptorIndex := 12, attributes := #[] }, { accessFlags := 18, nameIndex := 68, descriptorIndex := 34, attributes := #[] }, { accessFlags := 18, nameIndex := 71, descriptorIndex := 34, attributes := #[] }, { accessFlags := 18, nameIndex := 74, descriptorIndex := 34, attributes := #[] }, { accessFlags := 18, nameIndex := 77, descriptorIndex := 59, attributes := #[] }, { accessFlags := 18, nameIndex := 80, descriptorIndex := 34, attributes := #[] }, { accessFlags := 18, nameIndex := 83, descriptorIndex := 34, attributes := #[] }, { accessFlags := 18, nameIndex := 86, descriptorIndex := 34, attributes := #[] }, { accessFlags := 18, nameIndex := 89, descriptorIndex := 34, attributes := #[] }, { accessFlags := 18, nameIndex := 92, descriptorIndex := 34, attributes := #[] }, { accessFlags := 18, nameIndex := 95, descriptorIndex := 34, attributes := #[] }, { accessFlags := 18, nameIndex := 98, descriptorIndex := 34, attributes := #[] }])
  fields := #[{ name := "OP_CONST", type := .int, accessFlags := 25, slot := 0, constantValue := 0 }, { name := "OP_MOVE", type := .int, accessFlags := 25, slot := 1, constantValue := 0 }, { name := "OP_ADDI", type := .int, accessFlags := 25, slot := 2, constantValue := 0 }, { name := "OP_LOAD", type := .int, accessFlags := 25, slot := 3, constantValue := 0 }, { name := "OP_STORE", type := .int, accessFlags := 25, slot := 4, constantValue := 0 }, { name := "OP_CHECK", type := .int, accessFlags := 25, slot := 5, constantValue := 0 }, { name := "OP_OUT", type := .int, accessFlags := 25, slot := 6, constantValue := 0 }, { name := "OP_IFNULL", type := .int, accessFlags := 25, slot := 7, constantValue := 0 }, { name := "OP_ELSE", type := .int, accessFlags := 25, slot := 8, constantValue := 0 }, { name := "OP_END", type := .int, accessFlags := 25, slot := 9, constantValue := 0 }, { name := "OP_LOOP", type := .int, accessFlags := 25, slot := 10, constantValue := 0 }, { name := "OP_RET", type := .int, accessFlags := 25, slot := 11, constantValue := 0 }, { name := "MAX_INSTRUCTIONS", type := .int, accessFlags := 25, slot := 12, constantValue := 0 }, { name := "MAX_OUTPUTS", type := .int, accessFlags := 25, slot := 13, constantValue := 0 }, { name := "GUARD_CELLS", type := .int, accessFlags := 25, slot := 14, constantValue := 0 }, { name := "MAX_OPEN_BLOCKS", type := .int, accessFlags := 25, slot := 15, constantValue := 0 }, { name := "MAX_OPEN_LOOPS", type := .int, accessFlags := 25, slot := 16, constantValue := 0 }, { name := "OK", type := .int, accessFlags := 25, slot := 17, constantValue := 0 }, { name := "ERR_FULL", type := .int, accessFlags := 25, slot := 18, constantValue := 0 }, { name := "ERR_OP", type := .int, accessFlags := 25, slot := 19, constantValue := 0 }, { name := "ERR_OPERAND", type := .int, accessFlags := 25, slot := 20, constantValue := 0 }, { name := "ERR_ELSE", type := .int, accessFlags := 25, slot := 21, constantValue := 0 }, { name := "ERR_END", type := .int, accessFlags := 25, slot := 22, constantValue := 0 }, { name := "ERR_UNCLOSED", type := .int, accessFlags := 25, slot := 23, constantValue := 0 }, { name := "ERR_DEEP", type := .int, accessFlags := 25, slot := 24, constantValue := 0 }, { name := "ERR_NOT_READY", type := .int, accessFlags := 25, slot := 25, constantValue := 0 }, { name := "OUTCOME_NONE", type := .int, accessFlags := 25, slot := 26, constantValue := 0 }, { name := "OUTCOME_RETURN", type := .int, accessFlags := 25, slot := 27, constantValue := 0 }, { name := "OUTCOME_NULL_TRAP", type := .int, accessFlags := 25, slot := 28, constantValue := 0 }, { name := "OUTCOME_RANGE_TRAP", type := .int, accessFlags := 25, slot := 29, constantValue := 0 }, { name := "roleNone", type := .int, accessFlags := 18, slot := 0, constantValue := 0 }, { name := "roleReg", type := .int, accessFlags := 18, slot := 1, constantValue := 0 }, { name := "roleOff", type := .int, accessFlags := 18, slot := 2, constantValue := 0 }, { name := "roleImm", type := .int, accessFlags := 18, slot := 3, constantValue := 0 }, { name := "stepLimit", type := .int, accessFlags := 18, slot := 4, constantValue := 0 }, { name := "passLimit", type := .int, accessFlags := 18, slot := 5, constantValue := 0 }, { name := "allFacts", type := .int, accessFlags := 18, slot := 6, constantValue := 0 }, { name := "cells", type := .int, accessFlags := 2, slot := 7, constantValue := 0 }, { name := "progOp", type := (.array .int), accessFlags := 18, slot := 8, constantValue := 0 }, { name := "progA", type := (.array .int), accessFlags := 18, slot := 9, constantValue := 0 }, { name := "progB", type := (.array .int), accessFlags := 18, slot := 10, constantValue := 0 }, { name := "progC", type := (.array .int), accessFlags := 18, slot := 11, constantValue := 0 }, { name := "progLen", type := .int, accessFlags := 2, slot := 12, constantValue := 0 }, { name := "compiled", type := .boolean, accessFlags := 2, slot := 13, constantValue := 0 }, { name := "blockEnd", type := (.array .int), accessFlags := 18, slot := 14, constantValue := 0 }, { name := "blockElse", type := (.array .int), accessFlags := 18, slot := 15, constantValue := 0 }, { name := "blockOpener", type := (.array .int), accessFlags := 18, slot := 16, constantValue := 0 }, { name := "scanStack", type := (.array .int), accessFlags := 18, slot := 17, constantValue := 0 }, { name := "scanHasElse", type := (.array .boolean), accessFlags := 18, slot := 18, constantValue := 0 }, { name := "scanDepth", type := .int, accessFlags := 2, slot := 19, constantValue := 0 }, { name := "scanLoops", type := .int, accessFlags := 2, slot := 20, constantValue := 0 }, { name := "initialHeap", type := (.array .int), accessFlags := 18, slot := 21, constantValue := 0 }, { name := "heapAfter", type := (.array .int), accessFlags := 18, slot := 22, constantValue := 0 }, { name := "lastOutcome", type := .int, accessFlags := 2, slot := 23, constantValue := 0 }, { name := "lastResult", type := .int, accessFlags := 2, slot := 24, constantValue := 0 }, { name := "outCount", type := .int, accessFlags := 2, slot := 25, constantValue := 0 }, { name := "outputs", type := (.array .int), accessFlags := 18, slot := 26, constantValue := 0 }, { name := "regs", type := (.array .int), accessFlags := 18, slot := 27, constantValue := 0 }, { name := "loopLeft", type := (.array .int), accessFlags := 18, slot := 28, constantValue := 0 }, { name := "skipCheck", type := (.array .boolean), accessFlags := 18, slot := 29, constantValue := 0 }, { name := "hoistMask", type := (.array .int), accessFlags := 18, slot := 30, constantValue := 0 }, { name := "factIn", type := (.array .int), accessFlags := 18, slot := 31, constantValue := 0 }, { name := "nextIn", type := (.array .int), accessFlags := 18, slot := 32, constantValue := 0 }, { name := "succA", type := (.array .int), accessFlags := 18, slot := 33, constantValue := 0 }, { name := "succB", type := (.array .int), accessFlags := 18, slot := 34, constantValue := 0 }, { name := "gainA", type := (.array .int), accessFlags := 18, slot := 35, constantValue := 0 }, { name := "gainB", type := (.array .int), accessFlags := 18, slot := 36, constantValue := 0 }]
  methods := #[k2m0, k2m1, k2m2, k2m3, k2m4, k2m5, k2m6, k2m7, k2m8, k2m9, k2m10]
  instanceTypes := #[.int, .int, .int, .int, .int, .int, .int, .int, (.array .int), (.array .int), (.array .int), (.array .int), .int, .boolean, (.array .int), (.array .int), (.array .int), (.array .int), (.array .boolean), .int, .int, (.array .int), (.array .int), .int, .int, .int, (.array .int), (.array .int), (.array .int), (.array .boolean), (.array .int), (.array .int), (.array .int), (.array .int), (.array .int), (.array .int), (.array .int)]
  staticTypes := #[.int, .int, .int, .int, .int, .int, .int, .int, .int, .int, .int, .int, .int, .int, .int, .int, .int, .int, .int, .int, .int, .int, .int, .int, .int, .int, .int, .int, .int, .int]
  resolved := Array.replicate 354 none
  statics := none }

def pool3 : Array CpInfo := pool [(1, u "java/lang/Cloneable"), (0, .class_ 1), (0, u "java/lang/Object"), (0, .class_ 3)] 3

/-- java/lang/Cloneable -/
def k3 : Class := { plain "java/lang/Cloneable" (some 0) with
  accessFlags := 1537
  interfaces := #[]
  cf := some (fileOf pool3 2 #[] #[] 1537 4 #[] #[])
  fields := #[]
  methods := #[]
  instanceTypes := #[]
  staticTypes := #[]
  resolved := Array.replicate 8 none
  statics := none }

def pool4 : Array CpInfo := pool [(1, u "java/io/Serializable"), (0, .class_ 1), (0, u "java/lang/Object"), (0, .class_ 3)] 3

/-- java/io/Serializable -/
def k4 : Class := { plain "java/io/Serializable" (some 0) with
  accessFlags := 1537
  interfaces := #[]
  cf := some (fileOf pool4 2 #[] #[] 1537 4 #[] #[])
  fields := #[]
  methods := #[]
  instanceTypes := #[]
  staticTypes := #[]
  resolved := Array.replicate 8 none
  statics := none }

/-- the primitive boolean -/
def k5 : Class := { plain "boolean" none with kind := .primitive 'Z', accessFlags := 0x411 }
/-- [Z -/
def k6 : Class := { plain "[Z" (some 0) with kind := .array 5 .boolean, interfaces := #[3, 4], accessFlags := 1041 }

/-- the primitive byte -/
def k7 : Class := { plain "byte" none with kind := .primitive 'B', accessFlags := 0x411 }
/-- [B -/
def k8 : Class := { plain "[B" (some 0) with kind := .array 7 .byte, interfaces := #[3, 4], accessFlags := 1041 }

/-- the primitive int -/
def k9 : Class := { plain "int" none with kind := .primitive 'I', accessFlags := 0x411 }
/-- [I -/
def k10 : Class := { plain "[I" (some 0) with kind := .array 9 .int, interfaces := #[3, 4], accessFlags := 1041 }

def heap : Heap := #[]
def classes : Array Class := #[k0, k1, k2, k3, k4, k5, k6, k7, k8, k9, k10]
def interned : List (Array UInt16 × Addr) := []
def slotsUsed : Nat := 0
def theMethod : MethodId := ⟨1, 3⟩
def args0 : Array Value := #[.int 5, .int 5, .int 5, .int 5]
def aboutOver (below : List Frame) : State where
  vm := { classes := classes, interned := interned.toArray }
  heap := heap
  slotsUsed := slotsUsed
  threads := #[{ frames := .invoking theMethod args0 :: below }]
def below0 : List Frame := [.native { method := ⟨0, 0⟩, args := #[] }]
def about1 : State := aboutOver below0
def p0 : Program := .bare "" "" ""
def e0 : Env := launch0.env 0 0 0
theorem w_frames : about1.frames = Frame.invoking theMethod args0 :: below0 := rfl
set_option maxRecDepth 65536 in
theorem w_args : argsFit about1.vm theMethod args0 = true := by decide +kernel
set_option maxRecDepth 65536 in
theorem w_heap : heapFits about1 = true := by decide +kernel
set_option maxRecDepth 65536 in
theorem w_runnable : about1.curStatus? = some .runnable := by decide +kernel
set_option maxRecDepth 65536 in
theorem w_alone : about1.alone = true := by decide +kernel
set_option maxRecDepth 65536 in
theorem w_named : about1.methodNamed? x = some theMethod := by decide +kernel
set_option maxRecDepth 65536 in
theorem w_hears : about1.hears theMethod below0 = true := by decide +kernel
set_option maxRecDepth 65536 in
theorem w_ripe : about1.ripe theMethod args0 below0 = true := by decide +kernel
theorem w_running : about1.status = .running := rfl
set_option maxRecDepth 65536 in
theorem w_room : about1.hasRoom e0.platform room_1 = true :=
  launch0.hasRoom_least _ room_1 (by decide +kernel) (by decide +kernel) (by decide +kernel) (by decide +kernel) (by decide +kernel) (by decide +kernel)
theorem allAtoms_all (ts : List Jvm.Cond) (a : Array Jvm.Value) (st : Jvm.State) : (allAtoms ts).before a st = ts.all (fun c => c.before a st) := by
  induction ts with
  | nil => rfl
  | cons c t ih =>
    show (Jvm.Cond.and c (allAtoms t)).before a st = _
    rw [Jvm.Cond.before_and, ih, List.all_cons]
def words1 : List Jvm.Cond := Jvm.Cond.code x code maxLocals ret :: tables_1
/-- a 'code' word, met by the world's own term for the bytes: nothing is compared byte by byte -/
theorem code_word {y : MethodName} {bytes : ByteArray} {mx : Nat} {rt : Option FieldType} {a : Array Value} {s : State} {m : MethodId} {meth : Method} {c : Code} (h1 : s.methodNamed? y = some m) (h2 : s.vm.method? m = some meth) (h3 : meth.code = some c) (h4 : c.code = bytes)
    (h5 : (c.maxLocals == mx && c.exceptionTable.isEmpty && decide (c.maxStack ≤ mostOperands) && decide (meth.sig.returnType = rt) && !meth.locks && decide (parseMethodDescriptor y.desc = some meth.sig)) = true) : (Jvm.Cond.code y bytes mx rt).before a s = true := by
  simp only [Bool.and_eq_true, beq_iff_eq, Bool.not_eq_true', decide_eq_true_eq] at h5
  obtain ⟨⟨⟨⟨⟨g1, g2⟩, g3⟩, g4⟩, g5⟩, g6⟩ := h5
  simp [Cond.before, Cond.holds, Cond.value, h1, h2, h3, h4, g1, g2, g3, g4, g5, g6]
def isCode : Jvm.Cond → Bool
  | .code _ _ _ _ => true
  | _ => false
theorem all_split {L : List Jvm.Cond} {P : Jvm.Cond → Bool} (h1 : L.all (fun c => isCode c || P c) = true) (h2 : ∀ c ∈ L.filter isCode, P c = true) : L.all P = true := by
  refine List.all_eq_true.mpr fun c hc => ?_
  have h := List.all_eq_true.mp h1 c hc
  rcases Bool.eq_false_or_eq_true (isCode c) with hi | hi
  · exact h2 c (List.mem_filter.mpr ⟨hc, hi⟩)
  · simpa [hi] using h
set_option maxRecDepth 65536 in
theorem w_c0 : (Jvm.Cond.code x code maxLocals ret).before args0 about1 = true := code_word (m := ⟨1, 3⟩) (meth := k1m3) (c := k1c3) (by decide +kernel) rfl rfl rfl (by decide +kernel)
set_option maxRecDepth 65536 in
theorem w_c1 : (Jvm.Cond.code ({ cls := "NullCheckOpt", name := "<init>", desc := "(I)V" } : Jvm.MethodName) prog_1_method_1_code (3 : Nat) (Option.none : Option Jvm.ClassFile.FieldType)).before args0 about1 = true := code_word (m := ⟨2, 0⟩) (meth := k2m0) (c := k2c0) (by decide +kernel) rfl rfl rfl (by decide +kernel)
set_option maxRecDepth 65536 in
theorem w_c2 : (Jvm.Cond.code ({ cls := "java/lang/Object", name := "<init>", desc := "()V" } : Jvm.MethodName) object_method_1_code (1 : Nat) (Option.none : Option Jvm.ClassFile.FieldType)).before args0 about1 = true := code_word (m := ⟨0, 0⟩) (meth := k0m0) (c := k0c0) (by decide +kernel) rfl rfl rfl (by decide +kernel)
set_option maxRecDepth 65536 in
theorem w_c3 : (Jvm.Cond.code ({ cls := "NullCheckOpt", name := "compile", desc := "()I" } : Jvm.MethodName) prog_1_method_9_code (3 : Nat) (Option.some Jvm.ClassFile.FieldType.int)).before args0 about1 = true := code_word (m := ⟨2, 7⟩) (meth := k2m7) (c := k2c7) (by decide +kernel) rfl rfl rfl (by decide +kernel)
set_option maxRecDepth 65536 in
theorem w_c4 : (Jvm.Cond.code ({ cls := "NullCheckOpt", name := "isCompiled", desc := "()Z" } : Jvm.MethodName) prog_1_method_14_code (1 : Nat) (Option.some Jvm.ClassFile.FieldType.boolean)).before args0 about1 = true := code_word (m := ⟨2, 8⟩) (meth := k2m8) (c := k2c8) (by decide +kernel) rfl rfl rfl (by decide +kernel)
set_option maxRecDepth 65536 in
theorem w_c5 : (Jvm.Cond.code ({ cls := "NullCheckOptL2", name := "reg", desc := "(I)Z" } : Jvm.MethodName) method_2_code (1 : Nat) (Option.some Jvm.ClassFile.FieldType.boolean)).before args0 about1 = true := code_word (m := ⟨1, 1⟩) (meth := k1m1) (c := k1c1) (by decide +kernel) rfl rfl rfl (by decide +kernel)
set_option maxRecDepth 65536 in
theorem w_c6 : (Jvm.Cond.code ({ cls := "NullCheckOpt", name := "add", desc := "(IIII)I" } : Jvm.MethodName) prog_1_method_3_code (9 : Nat) (Option.some Jvm.ClassFile.FieldType.int)).before args0 about1 = true := code_word (m := ⟨2, 1⟩) (meth := k2m1) (c := k2c1) (by decide +kernel) rfl rfl rfl (by decide +kernel)
set_option maxRecDepth 65536 in
theorem w_c7 : (Jvm.Cond.code ({ cls := "NullCheckOpt", name := "length", desc := "()I" } : Jvm.MethodName) prog_1_method_15_code (1 : Nat) (Option.some Jvm.ClassFile.FieldType.int)).before args0 about1 = true := code_word (m := ⟨2, 9⟩) (meth := k2m9) (c := k2c9) (by decide +kernel) rfl rfl rfl (by decide +kernel)
set_option maxRecDepth 65536 in
theorem w_c8 : (Jvm.Cond.code ({ cls := "NullCheckOpt", name := "getField", desc := "(II)I" } : Jvm.MethodName) prog_1_method_16_code (3 : Nat) (Option.some Jvm.ClassFile.FieldType.int)).before args0 about1 = true := code_word (m := ⟨2, 10⟩) (meth := k2m10) (c := k2c10) (by decide +kernel) rfl rfl rfl (by decide +kernel)
set_option maxRecDepth 65536 in
theorem w_c9 : (Jvm.Cond.code ({ cls := "NullCheckOpt", name := "roleOfA", desc := "(I)I" } : Jvm.MethodName) prog_1_method_4_code (2 : Nat) (Option.some Jvm.ClassFile.FieldType.int)).before args0 about1 = true := code_word (m := ⟨2, 2⟩) (meth := k2m2) (c := k2c2) (by decide +kernel) rfl rfl rfl (by decide +kernel)
set_option maxRecDepth 65536 in
theorem w_c10 : (Jvm.Cond.code ({ cls := "NullCheckOpt", name := "roleOfB", desc := "(I)I" } : Jvm.MethodName) prog_1_method_5_code (2 : Nat) (Option.some Jvm.ClassFile.FieldType.int)).before args0 about1 = true := code_word (m := ⟨2, 3⟩) (meth := k2m3) (c := k2c3) (by decide +kernel) rfl rfl rfl (by decide +kernel)
set_option maxRecDepth 65536 in
theorem w_c11 : (Jvm.Cond.code ({ cls := "NullCheckOpt", name := "roleOfC", desc := "(I)I" } : Jvm.MethodName) prog_1_method_6_code (2 : Nat) (Option.some Jvm.ClassFile.FieldType.int)).before args0 about1 = true := code_word (m := ⟨2, 4⟩) (meth := k2m4) (c := k2c4) (by decide +kernel) rfl rfl rfl (by decide +kernel)
set_option maxRecDepth 65536 in
theorem w_c12 : (Jvm.Cond.code ({ cls := "NullCheckOpt", name := "fits", desc := "(II)Z" } : Jvm.MethodName) prog_1_method_7_code (3 : Nat) (Option.some Jvm.ClassFile.FieldType.boolean)).before args0 about1 = true := code_word (m := ⟨2, 5⟩) (meth := k2m5) (c := k2c5) (by decide +kernel) rfl rfl rfl (by decide +kernel)
set_option maxRecDepth 65536 in
theorem w_c13 : (Jvm.Cond.code ({ cls := "NullCheckOpt", name := "kept", desc := "(II)I" } : Jvm.MethodName) prog_1_method_8_code (3 : Nat) (Option.some Jvm.ClassFile.FieldType.int)).before args0 about1 = true := code_word (m := ⟨2, 6⟩) (meth := k2m6) (c := k2c6) (by decide +kernel) rfl rfl rfl (by decide +kernel)
set_option maxRecDepth 65536 in
theorem w_c14 : (Jvm.Cond.code ({ cls := "NullCheckOptL2", name := "off", desc := "(I)Z" } : Jvm.MethodName) method_3_code (1 : Nat) (Option.some Jvm.ClassFile.FieldType.boolean)).before args0 about1 = true := code_word (m := ⟨1, 2⟩) (meth := k1m2) (c := k1c2) (by decide +kernel) rfl rfl rfl (by decide +kernel)
def codes1 : List Jvm.Cond := [Jvm.Cond.code x code maxLocals ret, Jvm.Cond.code ({ cls := "NullCheckOpt", name := "<init>", desc := "(I)V" } : Jvm.MethodName) prog_1_method_1_code (3 : Nat) (Option.none : Option Jvm.ClassFile.FieldType), Jvm.Cond.code ({ cls := "java/lang/Object", name := "<init>", desc := "()V" } : Jvm.MethodName) object_method_1_code (1 : Nat) (Option.none : Option Jvm.ClassFile.FieldType), Jvm.Cond.code ({ cls := "NullCheckOpt", name := "compile", desc := "()I" } : Jvm.MethodName) prog_1_method_9_code (3 : Nat) (Option.some Jvm.ClassFile.FieldType.int), Jvm.Cond.code ({ cls := "NullCheckOpt", name := "isCompiled", desc := "()Z" } : Jvm.MethodName) prog_1_method_14_code (1 : Nat) (Option.some Jvm.ClassFile.FieldType.boolean), Jvm.Cond.code ({ cls := "NullCheckOptL2", name := "reg", desc := "(I)Z" } : Jvm.MethodName) method_2_code (1 : Nat) (Option.some Jvm.ClassFile.FieldType.boolean), Jvm.Cond.code ({ cls := "NullCheckOpt", name := "add", desc := "(IIII)I" } : Jvm.MethodName) prog_1_method_3_code (9 : Nat) (Option.some Jvm.ClassFile.FieldType.int), Jvm.Cond.code ({ cls := "NullCheckOpt", name := "length", desc := "()I" } : Jvm.MethodName) prog_1_method_15_code (1 : Nat) (Option.some Jvm.ClassFile.FieldType.int), Jvm.Cond.code ({ cls := "NullCheckOpt", name := "getField", desc := "(II)I" } : Jvm.MethodName) prog_1_method_16_code (3 : Nat) (Option.some Jvm.ClassFile.FieldType.int), Jvm.Cond.code ({ cls := "NullCheckOpt", name := "roleOfA", desc := "(I)I" } : Jvm.MethodName) prog_1_method_4_code (2 : Nat) (Option.some Jvm.ClassFile.FieldType.int), Jvm.Cond.code ({ cls := "NullCheckOpt", name := "roleOfB", desc := "(I)I" } : Jvm.MethodName) prog_1_method_5_code (2 : Nat) (Option.some Jvm.ClassFile.FieldType.int), Jvm.Cond.code ({ cls := "NullCheckOpt", name := "roleOfC", desc := "(I)I" } : Jvm.MethodName) prog_1_method_6_code (2 : Nat) (Option.some Jvm.ClassFile.FieldType.int), Jvm.Cond.code ({ cls := "NullCheckOpt", name := "fits", desc := "(II)Z" } : Jvm.MethodName) prog_1_method_7_code (3 : Nat) (Option.some Jvm.ClassFile.FieldType.boolean), Jvm.Cond.code ({ cls := "NullCheckOpt", name := "kept", desc := "(II)I" } : Jvm.MethodName) prog_1_method_8_code (3 : Nat) (Option.some Jvm.ClassFile.FieldType.int), Jvm.Cond.code ({ cls := "NullCheckOptL2", name := "off", desc := "(I)Z" } : Jvm.MethodName) method_3_code (1 : Nat) (Option.some Jvm.ClassFile.FieldType.boolean)]
set_option maxRecDepth 65536 in
theorem codes_eq : words1.filter isCode = codes1 := rfl
theorem w_codes : ∀ c ∈ words1.filter isCode, c.before args0 about1 = true := by
  rw [codes_eq]
  intro c hc
  simp only [codes1, List.mem_cons, List.not_mem_nil, or_false] at hc
  rcases hc with rfl | rfl | rfl | rfl | rfl | rfl | rfl | rfl | rfl | rfl | rfl | rfl | rfl | rfl | rfl
  · exact w_c0
  · exact w_c1
  · exact w_c2
  · exact w_c3
  · exact w_c4
  · exact w_c5
  · exact w_c6
  · exact w_c7
  · exact w_c8
  · exact w_c9
  · exact w_c10
  · exact w_c11
  · exact w_c12
  · exact w_c13
  · exact w_c14
set_option maxRecDepth 65536 in
theorem w_t1 : (words1.take 24).all (fun c => isCode c || c.before args0 about1) = true := by decide +kernel
set_option maxRecDepth 65536 in
theorem w_t2 : ((words1.drop 24).take 24).all (fun c => isCode c || c.before args0 about1) = true := by decide +kernel
set_option maxRecDepth 65536 in
theorem w_t3 : (((words1.drop 24).drop 24).take 24).all (fun c => isCode c || c.before args0 about1) = true := by decide +kernel
set_option maxRecDepth 65536 in
theorem w_t4 : ((((words1.drop 24).drop 24).drop 24).take 24).all (fun c => isCode c || c.before args0 about1) = true := by decide +kernel
set_option maxRecDepth 65536 in
theorem w_t5 : (((((words1.drop 24).drop 24).drop 24).drop 24).take 24).all (fun c => isCode c || c.before args0 about1) = true := by decide +kernel
set_option maxRecDepth 65536 in
theorem w_t6 : (((((words1.drop 24).drop 24).drop 24).drop 24).drop 24).all (fun c => isCode c || c.before args0 about1) = true := by decide +kernel
theorem w_tables : (allAtoms (Jvm.Cond.code x code maxLocals ret :: tables_1)).before args0 about1 = true := by
  rw [allAtoms_all]
  show words1.all (fun c => c.before args0 about1) = true
  refine all_split ?_ w_codes
  rw [← List.take_append_drop 24 words1, List.all_append, w_t1, ← List.take_append_drop 24 (words1.drop 24), List.all_append, w_t2, ← List.take_append_drop 24 ((words1.drop 24).drop 24), List.all_append, w_t3, ← List.take_append_drop 24 (((words1.drop 24).drop 24).drop 24), List.all_append, w_t4, ← List.take_append_drop 24 ((((words1.drop 24).drop 24).drop 24).drop 24), List.all_append, w_t5, w_t6]
  rfl
set_option maxRecDepth 65536 in
theorem w_case : (Jvm.Cond.and given_1 narrow_1).before args0 about1 = true := by decide +kernel
theorem w_applies : (headSpec (Jvm.Cond.code x code maxLocals ret :: tables_1) room_1).applies x e0.platform about1 = true :=
  (Spec.applies_iff w_frames).mpr ⟨w_running, w_runnable, w_alone, w_named, w_hears, w_ripe, w_room, w_tables⟩
theorem atStart : AtStart classFile x code maxLocals ret World_1 tables_1 room_1 Calls_1 rest_1 Pre_1 launch0 p0 e0 about1 theMethod args0 below0 :=
  ⟨lists_1, trivial, launch0.admits_env _ _ _, launch0.least_env, fairChoices_fair.cas, fairChoices_fair.clock, w_frames, w_args, w_heap, w_applies, trivial, trivial, w_case⟩
end start1
theorem witness_1 : WitnessClaimed_1 := ⟨start1.p0, start1.e0, start1.about1, start1.theMethod, start1.args0, start1.below0, start1.atStart⟩
end Jvm.Pilot.@@N@@
